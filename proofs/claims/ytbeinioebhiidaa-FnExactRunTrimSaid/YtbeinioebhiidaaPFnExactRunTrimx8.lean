/-
  Functions that FnExactRunTrim reaches, each as a Lean function, and that Go comes to its answer: printed by the kit's printer. Conditions: those that stand in each statement.
-/
import Derived.Test.YtbeinioebhiidaaPFnExactRunTrimx0
import Derived.Test.YtbeinioebhiidaaPFnExactRunTrimx7
namespace Go.Proofs.Ytbeinioebhiidaa.PFnExactRunTrim
open Go.RowKit Go.Proofs.YtbeinioebhiidaaW.PrintWords Go.Proofs.YtbeinioebhiidaaW.PrintLast Go.Proofs.YtbeinioebhiidaaW.PrintMore
attribute [local go_sem] max2_int min2_int max_two min_two max_three min_three max_four min_four   -- for this text's walks alone
set_option linter.unusedVariables false
set_option linter.unusedSimpArgs false

/-! ### impl_RunTrim: function 30 -/
mutual
def impl_RunTrim.l0 : Nat → List (S33) → List Int → Bool → List (S33) → List (S33) → Int → Int → Option ((List (S33)))
 | 0,_,_,_,_,_,_,_ => none
 | k + 1,x0,x1,x2,x7,x17,x18,x19 => if x19 < x18 then (if 0 ≤ x19 then (if x19 < (x17.length : Int) then (if x19 = 0 then (if x7.length < 3518437208883 then (impl_RunTrim.l0 k x0 x1 x2 (x7 ++ [(⟨(rd_T33 x17 x19).f0,(rd_T33 x17 x19).f1,(rd_T33 x17 x19).f2,(rd_T33 x17 x19).f3⟩ : S33)]) x17 x18 (wrap64 (x19 + 1))) else (none)) else (if 0 ≤ (wrap64 (x19 - 1)) then (if (wrap64 (x19 - 1)) < (x0.length : Int) then (if ((rd_T33 x0 (wrap64 (x19 - 1))).f0).toList = ((rd_T33 x17 x19).f0).toList then ((impl_seen.f x1 ((rd_T33 x17 x19).f0) ((rd_T33 x17 x19).f1) ((rd_T33 x17 x19).f2) ((rd_T33 x17 x19).f3) ((rd_T33 x0 (wrap64 (x19 - 1))).f0) ((rd_T33 x0 (wrap64 (x19 - 1))).f1) ((rd_T33 x0 (wrap64 (x19 - 1))).f2) ((rd_T33 x0 (wrap64 (x19 - 1))).f3)).bind fun t214 => (if t214 = true then (if x7.length < 3518437208883 then (impl_RunTrim.l0 k x0 x1 x2 (x7 ++ [(⟨(rd_T33 x17 x19).f0,(rd_T33 x17 x19).f1,(rd_T33 x17 x19).f2,(rd_T33 x17 x19).f3⟩ : S33)]) x17 x18 (wrap64 (x19 + 1))) else (none)) else (impl_RunTrim.l0 k x0 x1 x2 x7 x17 x18 (wrap64 (x19 + 1))))) else (if x7.length < 3518437208883 then (impl_RunTrim.l0 k x0 x1 x2 (x7 ++ [(⟨(rd_T33 x17 x19).f0,(rd_T33 x17 x19).f1,(rd_T33 x17 x19).f2,(rd_T33 x17 x19).f3⟩ : S33)]) x17 x18 (wrap64 (x19 + 1))) else (none))) else (none)) else (none))) else (none)) else (none)) else (impl_RunTrim.l1 k x2 x7 ([] : List (S33)) x7 (x7.length : Int) 0)
def impl_RunTrim.l1 : Nat → Bool → List (S33) → List (S33) → List (S33) → Int → Int → Option ((List (S33)))
 | 0,_,_,_,_,_,_ => none
 | k + 1,x2,x7,x10,x52,x53,x54 => if x54 < x53 then (if 0 ≤ x54 then (if x54 < (x52.length : Int) then (if (wrap64 (x54 + 1)) = (x7.length : Int) then (if x2 = true then (if ((rd_T33 x52 x54).f2 = true) then (impl_RunTrim.l1 k x2 x7 x10 x52 x53 (wrap64 (x54 + 1))) else (if x10.length < 3518437208883 then (impl_RunTrim.l1 k x2 x7 (x10 ++ [(⟨(rd_T33 x52 x54).f0,(rd_T33 x52 x54).f1,(rd_T33 x52 x54).f2,(rd_T33 x52 x54).f3⟩ : S33)]) x52 x53 (wrap64 (x54 + 1))) else (none))) else (if x10.length < 3518437208883 then (impl_RunTrim.l1 k x2 x7 (x10 ++ [(⟨(rd_T33 x52 x54).f0,(rd_T33 x52 x54).f1,(rd_T33 x52 x54).f2,(rd_T33 x52 x54).f3⟩ : S33)]) x52 x53 (wrap64 (x54 + 1))) else (none))) else (if 0 ≤ (wrap64 (x54 + 1)) then (if (wrap64 (x54 + 1)) < (x7.length : Int) then (if x2 = true then (if (¬ ((rd_T33 x7 (wrap64 (x54 + 1))).f0).toList = ((rd_T33 x52 x54).f0).toList) then (if ((rd_T33 x52 x54).f2 = true) then (impl_RunTrim.l1 k x2 x7 x10 x52 x53 (wrap64 (x54 + 1))) else (if x10.length < 3518437208883 then (impl_RunTrim.l1 k x2 x7 (x10 ++ [(⟨(rd_T33 x52 x54).f0,(rd_T33 x52 x54).f1,(rd_T33 x52 x54).f2,(rd_T33 x52 x54).f3⟩ : S33)]) x52 x53 (wrap64 (x54 + 1))) else (none))) else (if x10.length < 3518437208883 then (impl_RunTrim.l1 k x2 x7 (x10 ++ [(⟨(rd_T33 x52 x54).f0,(rd_T33 x52 x54).f1,(rd_T33 x52 x54).f2,(rd_T33 x52 x54).f3⟩ : S33)]) x52 x53 (wrap64 (x54 + 1))) else (none))) else (if x10.length < 3518437208883 then (impl_RunTrim.l1 k x2 x7 (x10 ++ [(⟨(rd_T33 x52 x54).f0,(rd_T33 x52 x54).f1,(rd_T33 x52 x54).f2,(rd_T33 x52 x54).f3⟩ : S33)]) x52 x53 (wrap64 (x54 + 1))) else (none))) else (none)) else (none))) else (none)) else (none)) else (some x10)
end
def impl_RunTrim.f (k : Nat) (l0 : List (S33)) (l1 : List Int) (a2 : Bool) : Option ((List (S33))):=(impl_RunOk.f k l0).bind fun t206 => (if t206 = true then (impl_RunTrim.l0 k l0 l1 a2 ([] : List (S33)) l0 (l0.length : Int) 0) else (some ([] : List (S33))))
theorem impl_RunTrim.mono_l : ∀ k,(∀ y0 y1 y2 y3 y4 y5 y6,LeO (impl_RunTrim.l0 k y0 y1 y2 y3 y4 y5 y6) (impl_RunTrim.l0 (k + 1) y0 y1 y2 y3 y4 y5 y6)) ∧ (∀ y0 y1 y2 y3 y4 y5,LeO (impl_RunTrim.l1 k y0 y1 y2 y3 y4 y5) (impl_RunTrim.l1 (k + 1) y0 y1 y2 y3 y4 y5))
 | 0 => ⟨fun _ _ _ _ _ _ _ r h => by simp [impl_RunTrim.l0] at h,fun _ _ _ _ _ _ r h => by simp [impl_RunTrim.l1] at h⟩
 | k + 1 => by
  obtain ⟨ih0,ih1⟩:=impl_RunTrim.mono_l k
  refine ⟨?_,?_⟩
  ·intro y0 y1 y2 y3 y4 y5 y6
   unfold impl_RunTrim.l0
   repeat' first
   | (with_reducible exact ih0 _ _ _ _ _ _ _)
   | (with_reducible exact ih1 _ _ _ _ _ _)
   | (with_reducible exact impl_RunOk.mono _ _)
   | (with_reducible exact LeO.refl _)
   | (with_reducible exact LeO.none _)
   | (with_reducible refine LeO.ite ?_ ?_)
   | (with_reducible refine LeO.bind ?_ (fun _ => ?_))
   | exact ih0 _ _ _ _ _ _ _
   | exact ih1 _ _ _ _ _ _
   | exact impl_RunOk.mono _ _
   | exact LeO.none _
   | refine LeO.ite ?_ ?_
   | refine LeO.bind ?_ (fun _ => ?_)
  ·intro y0 y1 y2 y3 y4 y5
   unfold impl_RunTrim.l1
   repeat' first
   | (with_reducible exact ih0 _ _ _ _ _ _ _)
   | (with_reducible exact ih1 _ _ _ _ _ _)
   | (with_reducible exact impl_RunOk.mono _ _)
   | (with_reducible exact LeO.refl _)
   | (with_reducible exact LeO.none _)
   | (with_reducible refine LeO.ite ?_ ?_)
   | (with_reducible refine LeO.bind ?_ (fun _ => ?_))
   | exact ih0 _ _ _ _ _ _ _
   | exact ih1 _ _ _ _ _ _
   | exact impl_RunOk.mono _ _
   | exact LeO.none _
   | refine LeO.ite ?_ ?_
   | refine LeO.bind ?_ (fun _ => ?_)
theorem impl_RunTrim.mono : ∀ a0 a1 a2 k,LeO (impl_RunTrim.f k a0 a1 a2) (impl_RunTrim.f (k + 1) a0 a1 a2):=by
 intro a0 a1 a2 k
 obtain ⟨ih0,ih1⟩:=impl_RunTrim.mono_l k
 unfold impl_RunTrim.f
 repeat' first
   | (with_reducible exact ih0 _ _ _ _ _ _ _)
   | (with_reducible exact ih1 _ _ _ _ _ _)
   | (with_reducible exact impl_RunOk.mono _ _)
   | (with_reducible exact LeO.refl _)
   | (with_reducible exact LeO.none _)
   | (with_reducible refine LeO.ite ?_ ?_)
   | (with_reducible refine LeO.bind ?_ (fun _ => ?_))
   | exact ih0 _ _ _ _ _ _ _
   | exact ih1 _ _ _ _ _ _
   | exact impl_RunOk.mono _ _
   | exact LeO.none _
   | refine LeO.ite ?_ ?_
   | refine LeO.bind ?_ (fun _ => ?_)
def impl_RunTrim.T7 : Bool × List (List Nat × List Nat):=(true,[([],[]),([0],[0]),([1],[1]),([2],[2]),([2],[2]),([4,2],[2,4]),([3,5,2],[2,3,5]),([6,2],[2,6]),([7,2],[2,7]),([2],[2]),([9,2],[2,9]),([8,10,2],[2,8,10]),([2,11],[2,11]),([12,2],[12]),([13],[13]),([13],[13]),([13],[13]),([13],[13]),([17,13],[13,17]),([16,18,13],[13,16,18]),([19,13],[13,19]),([14,15,20,13,13],[13,14,15,20]),([13,21],[13,21])])
def impl_RunTrim.B7 : List Nat:=[0,1,3,7,7,23,63,127,255,7,519,2047,4095,8191,16383,16383,16383,16383,147455,475135,999423,2097151,4194303]
theorem impl_RunTrim.tab7 : rtab .any (opsOf Try.f30 7) = impl_RunTrim.T7:=by kernel_rfl
theorem impl_RunTrim.bits7 : waitsOk impl_RunTrim.T7.2 impl_RunTrim.B7 = true:=by kernel_rfl
def impl_RunTrim.T14 : Bool × List (List Nat × List Nat):=(true,[([],[]),([0],[0]),([],[]),([2],[2]),([1,3],[1,3]),([4],[4]),([5],[5]),([5],[5]),([7,5],[5,7]),([6,8,5],[5,6,8]),([9,5],[5,9]),([10,5],[5,10]),([5],[5]),([12,5],[5,12]),([11,13,5],[5,11,13]),([5,14],[5,14]),([15,5,0,1,2,3,4,5,6,7,8,9,10,11,12,13,14,15],[15])])
def impl_RunTrim.B14 : List Nat:=[0,1,0,4,15,31,63,63,191,511,1023,2047,63,4159,16383,32767,65535]
theorem impl_RunTrim.tab14 : rtab .any (opsOf Try.f30 14) = impl_RunTrim.T14:=by kernel_rfl
theorem impl_RunTrim.bits14 : waitsOk impl_RunTrim.T14.2 impl_RunTrim.B14 = true:=by kernel_rfl
set_option maxHeartbeats 8000000 in
set_option maxRecDepth 100000 in
theorem impl_RunTrim.calls (k : Nat) (A0 : Option Addr) (c0 : Nat) (l0 : List (S33)) (A1 : Option Addr) (c1 : Nat) (l1 : List Int) (a2 : Bool) (r : List (S33)) (w : World) (hr0 : Kd.C k33 w A0 l0.length l0) (hc0 : l0.length ≤ c0) (hr1 : Kd.C (Kd.int .i64) w A1 l1.length l1) (hc1 : l1.length ≤ c1) (h : impl_RunTrim.f k l0 l1 a2 = some r) :
  Calls Try.prog 30 #[.slice A0 l0.length c0,.slice A1 l1.length c1,.bool a2] w fun e w' => ∃ v0_ : Value,e = .returned (v0_) ∧ Kd.R k33 33 w' w.heap.size (fun _ => True) v0_ r ∧ Below w.heap.size w w':=by
 have hu33:=Try.underlying33
 have HR0:=Aside0.mk hr0
 have HC0:=Aside0.mk hc0
 clear hr0 hc0
 have HR1:=Aside0.mk hr1
 have HC1:=Aside0.mk hc1
 clear hr1 hc1
 have HB:=Aside0.mk (Below.refl w.heap.size w)
 have H : ((impl_RunOk.f k l0).bind fun t206 => (if t206 = true then (impl_RunTrim.l0 k l0 l1 a2 ([] : List (S33)) l0 (l0.length : Int) 0) else (some ([] : List (S33))))) = some r:=h
 clear h
 replace H:=Option.bind_eq_some_iff.mp H
 obtain ⟨t206,A40,H⟩:=H
 replace H : (if t206 = true then (impl_RunTrim.l0 k l0 l1 a2 ([] : List (S33)) l0 (l0.length : Int) 0) else (some ([] : List (S33)))) = some r:=H
 have A4:=Aside0.mk A40
 clear A40
 by_cases c5 : t206 = true
 ·subst c5
  have H1 : (impl_RunTrim.l0 k l0 l1 a2 ([] : List (S33)) l0 (l0.length : Int) 0) = some r:=by rw [if_pos rfl] at H;exact H
  clear H
  have H:=H1
  clear H1
  have H':=Aside0.mk H
  clear H
  go_enter Try.func30,Try.ntmps30
  go_wp2_with (first | ((with_reducible refine gate_callee (f:=15) rfl ?_);refine goesL_ (some 15) rfl rfl Try.func15 (by kernel_rfl) rfl #[.slice A0 l0.length c0] rfl (by (try simp only [List.map_toArray,List.map_cons,List.map_nil]);first | done | rfl | (simp only [List.length_drop,List.length_take];rfl)) ?_;(with_reducible refine (impl_RunOk.calls k _ _ l0 true _ ?side1 ?side2 A4.out).mono ?_);(case side1 => repeat (first | exact HR0.out | (with_reducible refine Kd.C_alloc ?_ _) | (with_reducible refine Kd.C_drewN ?_ _) | (with_reducible refine Kd.C_drew ?_)));(case side2 => exact HC0.out);rintro e w6 ⟨rfl,hb⟩;refine ⟨_,rfl,?_⟩;have n0_:=Aside0.mk (below_step (by repeat (first | (with_reducible first | exact HB.out | apply below_alloc | apply pw_below_drewN | apply below_drew1) | exact HB.out)) hb);clear HB;have HB:=n0_;clear n0_;(try clear hb);(try clear hb2);(try clear hk);(try clear hi)))
  go_loopg [7,19] k (fun kq v7 v19 w' => ∃ (x7_1 : List (S33)) (x19_1 : Int),v19 = .int .i64 x19_1 ∧ Aside0 (impl_RunTrim.l0 kq l0 l1 a2 x7_1 l0 (l0.length : Int) x19_1 = some r) ∧ Aside0 (kq ≤ k) ∧ Aside0 (Kd.R k33 33 w' w.heap.size (fun _ => True) v7 x7_1) ∧ Aside0 (Below w.heap.size w w'))
  case atStart => exact ⟨(([] : List (S33))),(0),(by first | rfl | (simp;done) | (simp [*];done)),H',⟨Nat.le_refl _⟩,⟨by first | exact Kd.R_nil _ _ _ _ _ | exact Kd.N_nil _ _ _ _ _ | exact Kd.V_nil _ _ _ _ _ | exact Kd.Q_nil _ _ _ _ _ | exact Kd.S_nil _ _ _ _ _⟩,⟨by repeat (first | (with_reducible first | exact HB.out | apply below_alloc | apply pw_below_drewN | apply below_drew1) | exact HB.out)⟩⟩
  case round =>
   clear H'
   try clear c1
   try clear p2
   try clear c3
   try clear c5
   obtain ⟨x7_1,x19_1,rfl,HA,HK1,HO_7,HB⟩:=hrel
   cases gk with
   | zero => exact absurd HA.out (by simp [impl_RunTrim.l0])
   | succ k1 =>
    have H:=HA.out
    clear HA
    simp only [impl_RunTrim.l0] at H
    by_cases c7 : x19_1 < (l0.length : Int)
    ·rw [if_pos c7] at H
     have c7b0 : decide (x19_1 < (l0.length : Int)) = true:=decide_eq_true c7
     clear c7
     by_cases c8 : 0 ≤ x19_1
     ·rw [if_pos c8] at H
      have c8b0 : decide (0 ≤ x19_1) = true:=decide_eq_true c8
      clear c8
      by_cases c9 : x19_1 < (l0.length : Int)
      ·rw [if_pos c9] at H
       have c9b0 : decide (x19_1 < (l0.length : Int)) = true:=decide_eq_true c9
       clear c9
       by_cases c10 : x19_1 = 0
       ·rw [if_pos c10] at H
        have c10b0 : (x19_1 == 0) = true:=beq_iff_eq.mpr c10
        have c10b1 : (x19_1 != 0) = false:=bne_eq_false_iff_eq.mpr c10
        clear c10
        by_cases c11 : x7_1.length < 3518437208883
        ·rw [if_pos c11] at H
         have LMc11:=Aside0.mk c11
         clear c11
         obtain ⟨y209,hy209⟩ : ∃ y_ : List (S33),y_ = (x7_1 ++ [(⟨(rd_T33 l0 x19_1).f0,(rd_T33 l0 x19_1).f1,(rd_T33 l0 x19_1).f2,(rd_T33 l0 x19_1).f3⟩ : S33)]):=⟨_,rfl⟩
         replace H : (impl_RunTrim.l0 k1 l0 l1 a2 y209 l0 (l0.length : Int) (wrap64 (x19_1 + 1))) = some r:=by first | (rw [hy209];with_reducible exact H) | (have H2_:=(Option.bind_some _ _).symm.trans H;rw [hy209];with_reducible exact H2_) | (have H2_:=(Option.bind_some _ _).symm.trans H;with_reducible exact H2_) | with_reducible exact H | (rw [hy209];exact H) | exact H
         have Ny209:=Aside0.mk hy209
         clear hy209
         have H':=Aside0.mk H
         clear H
         have p207 : 0 ≤ (x19_1 : Int):=of_decide_eq_true (by first | (with_reducible assumption) | assumption)
         have q207 : x19_1 < (l0.length : Int):=of_decide_eq_true (by first | (with_reducible assumption) | assumption)
         obtain ⟨ad207,e207,hx207_0,hx207_1,hx207_2,hx207_3⟩:=at_T33 HR0.out x19_1 p207 q207
         cases e207
         replace hx207_0:=(HB.out.cell (World.block_lt_of_cell? w _ hx207_0)).trans hx207_0
         replace hx207_1:=(HB.out.cell (World.block_lt_of_cell? w _ hx207_1)).trans hx207_1
         replace hx207_2:=(HB.out.cell (World.block_lt_of_cell? w _ hx207_2)).trans hx207_2
         replace hx207_3:=(HB.out.cell (World.block_lt_of_cell? w _ hx207_3)).trans hx207_3
         replace p207:=eq_true p207
         replace q207:=eq_true q207
         try go_wp2_with (first | ((with_reducible refine gate_dst (N:=9) rfl ?_);refine box_event ?hg (N:=9) ?hd (cs:=#[.string (⟨#[]⟩ : ByteArray),.int .i64 0,.bool false,.int .i64 0]) (t:=33) ?hr ?_;(case hd => rfl);(case hg => rfl);(case hr => first | (go_simp;done) | (go_simp;rfl));intro gb208 hg w12 hbox hb;have n0_:=Aside0.mk (Kd.R_below (Kd.R_elderB (by (with_reducible repeat (first | apply Kd.R_alloc | apply Kd.R_drewN | apply Kd.R_drew));exact HO_7.out) gb208 (Nat.le_of_eq hg.symm)) hb);have n1_:=Aside0.mk (below_step (by repeat (first | (with_reducible first | exact HB.out | apply below_alloc | apply pw_below_drewN | apply below_drew1) | exact HB.out)) hb);have n2_:=Aside0.mk (hbox);have n3_:=Aside0.mk ((by rw [hg];exact (below_size (by repeat (first | (with_reducible first | exact HB.out | apply below_alloc | apply pw_below_drewN | apply below_drew1) | exact HB.out))) : w.heap.size ≤ gb208));have n4_:=Aside0.mk ((by rw [hg];exact (below_size (by repeat (first | (with_reducible first | exact HB.out | apply below_alloc | apply pw_below_drewN | apply below_drew1) | exact HB.out))) : w.heap.size ≤ gb208));clear HO_7;clear HB;have HO_7:=n0_;have HB:=n1_;have BK208:=n2_;have GW208:=n3_;have GE208:=n4_;clear n0_ n1_ n2_ n3_ n4_;clear hb hbox hg;have hcz13_0 : w12.cell? ⟨gb208,0,none⟩ = some (.string (⟨#[]⟩ : ByteArray)):=(blk_cell BK208.out 0).trans rfl;have hcz13_1 : w12.cell? ⟨gb208,1,none⟩ = some (.int .i64 0):=(blk_cell BK208.out 1).trans rfl;have hcz13_2 : w12.cell? ⟨gb208,2,none⟩ = some (.bool false):=(blk_cell BK208.out 2).trans rfl;have hcz13_3 : w12.cell? ⟨gb208,3,none⟩ = some (.int .i64 0):=(blk_cell BK208.out 3).trans rfl;have hfz13_0:=blk_frozen BK208.out 0;have hfz13_1:=blk_frozen BK208.out 1;have hfz13_2:=blk_frozen BK208.out 2;have hfz13_3:=blk_frozen BK208.out 3))
         have n0_ : Aside0 (Kd.R k33 33 ((((w12.setCell ⟨gb208,0,none⟩ (.string ((rd_T33 l0 x19_1).f0))).setCell ⟨gb208,1,none⟩ (.int .i64 ((rd_T33 l0 x19_1).f1))).setCell ⟨gb208,2,none⟩ (.bool ((rd_T33 l0 x19_1).f2))).setCell ⟨gb208,3,none⟩ (.int .i64 ((rd_T33 l0 x19_1).f3))) w.heap.size (fun k_ => k_ ≠ gb208) u7 x7_1):=⟨by (with_reducible repeat (first | apply Kd.R_alloc | apply Kd.R_drewN | apply Kd.R_drew));exact Kd.R_mono (Kd.R_far (p:=⟨gb208,3,none⟩) (Kd.R_far (p:=⟨gb208,2,none⟩) (Kd.R_far (p:=⟨gb208,1,none⟩) (Kd.R_far (p:=⟨gb208,0,none⟩) (Kd.R_mono HO_7.out (fun k_ hk => (⟨hk,hk.2⟩ : _ ∧ k_ ≠ gb208))) (fun _ hk => hk.2) (.string ((rd_T33 l0 x19_1).f0))) (fun _ hk => hk.2) (.int .i64 ((rd_T33 l0 x19_1).f1))) (fun _ hk => hk.2) (.bool ((rd_T33 l0 x19_1).f2))) (fun _ hk => hk.2) (.int .i64 ((rd_T33 l0 x19_1).f3))) (fun _ hk => hk.1.2)⟩
         have n1_ : Aside0 (((((w12.setCell ⟨gb208,0,none⟩ (.string ((rd_T33 l0 x19_1).f0))).setCell ⟨gb208,1,none⟩ (.int .i64 ((rd_T33 l0 x19_1).f1))).setCell ⟨gb208,2,none⟩ (.bool ((rd_T33 l0 x19_1).f2))).setCell ⟨gb208,3,none⟩ (.int .i64 ((rd_T33 l0 x19_1).f3))).heap[gb208]? = some (.cells #[.string ((rd_T33 l0 x19_1).f0),.int .i64 ((rd_T33 l0 x19_1).f1),.bool ((rd_T33 l0 x19_1).f2),.int .i64 ((rd_T33 l0 x19_1).f3)] 33 (0,0))):=⟨by (with_reducible repeat (first | refine blk_drewN ?_ _ | refine blk_drew ?_ | refine blk_alloc ?_ _));refine blk_put (cs:=#[.string ((rd_T33 l0 x19_1).f0),.int .i64 ((rd_T33 l0 x19_1).f1),.bool ((rd_T33 l0 x19_1).f2),.int .i64 0]) ?_ 3 _ rfl;(with_reducible repeat (first | refine blk_drewN ?_ _ | refine blk_drew ?_ | refine blk_alloc ?_ _));refine blk_put (cs:=#[.string ((rd_T33 l0 x19_1).f0),.int .i64 ((rd_T33 l0 x19_1).f1),.bool false,.int .i64 0]) ?_ 2 _ rfl;(with_reducible repeat (first | refine blk_drewN ?_ _ | refine blk_drew ?_ | refine blk_alloc ?_ _));refine blk_put (cs:=#[.string ((rd_T33 l0 x19_1).f0),.int .i64 0,.bool false,.int .i64 0]) ?_ 1 _ rfl;(with_reducible repeat (first | refine blk_drewN ?_ _ | refine blk_drew ?_ | refine blk_alloc ?_ _));refine blk_put (cs:=#[.string (⟨#[]⟩ : ByteArray),.int .i64 0,.bool false,.int .i64 0]) ?_ 0 _ rfl;(with_reducible repeat (first | refine blk_drewN ?_ _ | refine blk_drew ?_ | refine blk_alloc ?_ _));exact BK208.out⟩
         have n2_ : Aside0 (Below w.heap.size w ((((w12.setCell ⟨gb208,0,none⟩ (.string ((rd_T33 l0 x19_1).f0))).setCell ⟨gb208,1,none⟩ (.int .i64 ((rd_T33 l0 x19_1).f1))).setCell ⟨gb208,2,none⟩ (.bool ((rd_T33 l0 x19_1).f2))).setCell ⟨gb208,3,none⟩ (.int .i64 ((rd_T33 l0 x19_1).f3)))):=⟨by repeat (first | (with_reducible first | exact HB.out | apply below_alloc | apply pw_below_drewN | apply below_drew1 | refine below_set ?_ GE208.out) | exact HB.out)⟩
         (try clear HO_7)
         (try clear BK208)
         (try clear HB)
         generalize ((((w12.setCell ⟨gb208,0,none⟩ (.string ((rd_T33 l0 x19_1).f0))).setCell ⟨gb208,1,none⟩ (.int .i64 ((rd_T33 l0 x19_1).f1))).setCell ⟨gb208,2,none⟩ (.bool ((rd_T33 l0 x19_1).f2))).setCell ⟨gb208,3,none⟩ (.int .i64 ((rd_T33 l0 x19_1).f3))) = w14 at n0_ n1_ n2_ ⊢
         have HO_7:=n0_
         have BK208:=n1_
         have HB:=n2_
         clear n0_ n1_ n2_
         have n0_:=Aside0.mk (Kd.R_drew HO_7.out)
         have n1_:=Aside0.mk (blk_drew BK208.out)
         have n2_:=Aside0.mk (below_drew1 HB.out)
         clear HO_7
         clear BK208
         clear HB
         have HO_7:=n0_
         have BK208:=n1_
         have HB:=n2_
         clear n0_ n1_ n2_
         refine start_ (n:=23) (S:=fun w' => True) (ds:=[]) #[false,false,false,false,false,false,false,false,false,false,false,false,false,false,false,false,false,false,false,false,false,false,false] (by kernel_rfl) rfl rfl trivial (fun hHeld => ?_);refine with_tabW impl_RunTrim.tab7 impl_RunTrim.bits7 (fun HT_ HW_ => ?_)
         generalize w14.drew = w15 at HO_7 BK208 HB hHeld ⊢
         refine pure_ (i:=0) (N:=some 24) (v:=?_) (a':=?_) #[true,false,false,false,false,false,false,false,false,false,false,false,false,false,false,false,false,false,false,false,false,false,false] rfl rfl (any_of HT_.out (by kernel_rfl)) (fun _ _ _ h => h) (Or.inl ⟨by rfl,?_⟩) ?_ ?_
         rotate_left
         ·intro w'
          go_simp
          with_reducible rfl
         rotate_left
         ·simp only [Act.put,List.setIfInBounds_toArray,List.set_cons_zero,List.set_cons_succ,i64_w,i32_w]
          rfl
         refine pure_ (i:=1) (N:=some 25) (v:=?_) (a':=?_) #[true,true,false,false,false,false,false,false,false,false,false,false,false,false,false,false,false,false,false,false,false,false,false] rfl rfl (any_of HT_.out (by kernel_rfl)) (fun _ _ _ h => h) (Or.inl ⟨by rfl,?_⟩) ?_ ?_
         rotate_left
         ·intro w'
          go_simp
          with_reducible rfl
         rotate_left
         ·simp only [Act.put,List.setIfInBounds_toArray,List.set_cons_zero,List.set_cons_succ,i64_w,i32_w]
          rfl
         refine pure_ (i:=2) (N:=some 26) (v:=?_) (a':=?_) #[true,true,true,false,false,false,false,false,false,false,false,false,false,false,false,false,false,false,false,false,false,false,false] rfl rfl (any_of HT_.out (by kernel_rfl)) (fun _ _ _ h => h) (Or.inl ⟨by rfl,?_⟩) ?_ ?_
         rotate_left
         ·intro w'
          go_simp
          with_reducible rfl
         rotate_left
         ·simp only [Act.put,List.setIfInBounds_toArray,List.set_cons_zero,List.set_cons_succ,i64_w,i32_w]
          rfl
         refine pure_ (i:=3) (N:=some 27) (v:=undef) (a':=?_) #[true,true,true,true,false,false,false,false,false,false,false,false,false,false,false,false,false,false,false,false,false,false,false] rfl rfl (any_of HT_.out (by kernel_rfl)) (fun _ _ _ h => h) (Or.inr ⟨by rfl,rfl⟩) ?_ ?_
         rotate_left
         ·simp only [Act.put,List.setIfInBounds_toArray,List.set_cons_zero,List.set_cons_succ,i64_w,i32_w]
          rfl
         refine pure_ (i:=4) (N:=some 28) (v:=undef) (a':=?_) #[true,true,true,true,true,false,false,false,false,false,false,false,false,false,false,false,false,false,false,false,false,false,false] rfl rfl (any_of HT_.out (by kernel_rfl)) (fun _ _ _ h => h) (Or.inr ⟨by rfl,rfl⟩) ?_ ?_
         rotate_left
         ·simp only [Act.put,List.setIfInBounds_toArray,List.set_cons_zero,List.set_cons_succ,i64_w,i32_w]
          rfl
         refine pure_ (i:=5) (N:=some 29) (v:=undef) (a':=?_) #[true,true,true,true,true,true,false,false,false,false,false,false,false,false,false,false,false,false,false,false,false,false,false] rfl rfl (any_of HT_.out (by kernel_rfl)) (fun _ _ _ h => h) (Or.inr ⟨by rfl,rfl⟩) ?_ ?_
         rotate_left
         ·simp only [Act.put,List.setIfInBounds_toArray,List.set_cons_zero,List.set_cons_succ,i64_w,i32_w]
          rfl
         refine pure_ (i:=6) (N:=some 30) (v:=undef) (a':=?_) #[true,true,true,true,true,true,true,false,false,false,false,false,false,false,false,false,false,false,false,false,false,false,false] rfl rfl (any_of HT_.out (by kernel_rfl)) (fun _ _ _ h => h) (Or.inr ⟨by rfl,rfl⟩) ?_ ?_
         rotate_left
         ·simp only [Act.put,List.setIfInBounds_toArray,List.set_cons_zero,List.set_cons_succ,i64_w,i32_w]
          rfl
         refine pure_ (i:=7) (N:=some 31) (v:=undef) (a':=?_) #[true,true,true,true,true,true,true,true,false,false,false,false,false,false,false,false,false,false,false,false,false,false,false] rfl rfl (any_of HT_.out (by kernel_rfl)) (fun _ _ _ h => h) (Or.inr ⟨by rfl,rfl⟩) ?_ ?_
         rotate_left
         ·simp only [Act.put,List.setIfInBounds_toArray,List.set_cons_zero,List.set_cons_succ,i64_w,i32_w]
          rfl
         refine pure_ (i:=8) (N:=some 32) (v:=undef) (a':=?_) #[true,true,true,true,true,true,true,true,true,false,false,false,false,false,false,false,false,false,false,false,false,false,false] rfl rfl (any_of HT_.out (by kernel_rfl)) (fun _ _ _ h => h) (Or.inr ⟨by rfl,rfl⟩) ?_ ?_
         rotate_left
         ·simp only [Act.put,List.setIfInBounds_toArray,List.set_cons_zero,List.set_cons_succ,i64_w,i32_w]
          rfl
         refine pure_ (i:=9) (N:=some 33) (v:=undef) (a':=?_) #[true,true,true,true,true,true,true,true,true,true,false,false,false,false,false,false,false,false,false,false,false,false,false] rfl rfl (any_of HT_.out (by kernel_rfl)) (fun _ _ _ h => h) (Or.inr ⟨by rfl,rfl⟩) ?_ ?_
         rotate_left
         ·simp only [Act.put,List.setIfInBounds_toArray,List.set_cons_zero,List.set_cons_succ,i64_w,i32_w]
          rfl
         refine pure_ (i:=10) (N:=some 34) (v:=undef) (a':=?_) #[true,true,true,true,true,true,true,true,true,true,true,false,false,false,false,false,false,false,false,false,false,false,false] rfl rfl (any_of HT_.out (by kernel_rfl)) (fun _ _ _ h => h) (Or.inr ⟨by rfl,rfl⟩) ?_ ?_
         rotate_left
         ·simp only [Act.put,List.setIfInBounds_toArray,List.set_cons_zero,List.set_cons_succ,i64_w,i32_w]
          rfl
         refine pure_ (i:=11) (N:=some 35) (v:=undef) (a':=?_) #[true,true,true,true,true,true,true,true,true,true,true,true,false,false,false,false,false,false,false,false,false,false,false] rfl rfl (any_of HT_.out (by kernel_rfl)) (fun _ _ _ h => h) (Or.inr ⟨by rfl,rfl⟩) ?_ ?_
         rotate_left
         ·simp only [Act.put,List.setIfInBounds_toArray,List.set_cons_zero,List.set_cons_succ,i64_w,i32_w]
          rfl
         refine pure_ (i:=12) (N:=some 36) (v:=?_) (a':=?_) #[true,true,true,true,true,true,true,true,true,true,true,true,true,false,false,false,false,false,false,false,false,false,false] rfl rfl (any_of HT_.out (by kernel_rfl)) (fun _ _ _ h => h) (Or.inl ⟨by rfl,?_⟩) ?_ ?_
         rotate_left
         ·intro w'
          go_simp
          with_reducible rfl
         rotate_left
         ·simp only [Act.put,List.setIfInBounds_toArray,List.set_cons_zero,List.set_cons_succ,i64_w,i32_w]
          rfl
         refine pure_ (i:=13) (N:=some 37) (v:=?_) (a':=?_) #[true,true,true,true,true,true,true,true,true,true,true,true,true,true,false,false,false,false,false,false,false,false,false] rfl rfl (any_of HT_.out (by kernel_rfl)) (fun _ _ _ h => h) (Or.inl ⟨by rfl,?_⟩) ?_ ?_
         rotate_left
         ·intro w'
          go_simp
          with_reducible rfl
         rotate_left
         ·simp only [Act.put,List.setIfInBounds_toArray,List.set_cons_zero,List.set_cons_succ,i64_w,i32_w]
          rfl
         refine pure_ (i:=14) (N:=some 38) (v:=undef) (a':=?_) #[true,true,true,true,true,true,true,true,true,true,true,true,true,true,true,false,false,false,false,false,false,false,false] rfl rfl (any_of HT_.out (by kernel_rfl)) (fun _ _ _ h => h) (Or.inr ⟨by rfl,rfl⟩) ?_ ?_
         rotate_left
         ·simp only [Act.put,List.setIfInBounds_toArray,List.set_cons_zero,List.set_cons_succ,i64_w,i32_w]
          rfl
         refine pure_ (i:=15) (N:=some 39) (v:=undef) (a':=?_) #[true,true,true,true,true,true,true,true,true,true,true,true,true,true,true,true,false,false,false,false,false,false,false] rfl rfl (any_of HT_.out (by kernel_rfl)) (fun _ _ _ h => h) (Or.inr ⟨by rfl,rfl⟩) ?_ ?_
         rotate_left
         ·simp only [Act.put,List.setIfInBounds_toArray,List.set_cons_zero,List.set_cons_succ,i64_w,i32_w]
          rfl
         refine pure_ (i:=16) (N:=some 40) (v:=undef) (a':=?_) #[true,true,true,true,true,true,true,true,true,true,true,true,true,true,true,true,true,false,false,false,false,false,false] rfl rfl (any_of HT_.out (by kernel_rfl)) (fun _ _ _ h => h) (Or.inr ⟨by rfl,rfl⟩) ?_ ?_
         rotate_left
         ·simp only [Act.put,List.setIfInBounds_toArray,List.set_cons_zero,List.set_cons_succ,i64_w,i32_w]
          rfl
         refine pure_ (i:=17) (N:=some 41) (v:=undef) (a':=?_) #[true,true,true,true,true,true,true,true,true,true,true,true,true,true,true,true,true,true,false,false,false,false,false] rfl rfl (any_of HT_.out (by kernel_rfl)) (fun _ _ _ h => h) (Or.inr ⟨by rfl,rfl⟩) ?_ ?_
         rotate_left
         ·simp only [Act.put,List.setIfInBounds_toArray,List.set_cons_zero,List.set_cons_succ,i64_w,i32_w]
          rfl
         refine pure_ (i:=18) (N:=some 42) (v:=undef) (a':=?_) #[true,true,true,true,true,true,true,true,true,true,true,true,true,true,true,true,true,true,true,false,false,false,false] rfl rfl (any_of HT_.out (by kernel_rfl)) (fun _ _ _ h => h) (Or.inr ⟨by rfl,rfl⟩) ?_ ?_
         rotate_left
         ·simp only [Act.put,List.setIfInBounds_toArray,List.set_cons_zero,List.set_cons_succ,i64_w,i32_w]
          rfl
         refine pure_ (i:=19) (N:=some 43) (v:=undef) (a':=?_) #[true,true,true,true,true,true,true,true,true,true,true,true,true,true,true,true,true,true,true,true,false,false,false] rfl rfl (any_of HT_.out (by kernel_rfl)) (fun _ _ _ h => h) (Or.inr ⟨by rfl,rfl⟩) ?_ ?_
         rotate_left
         ·simp only [Act.put,List.setIfInBounds_toArray,List.set_cons_zero,List.set_cons_succ,i64_w,i32_w]
          rfl
         refine pure_ (i:=20) (N:=some 44) (v:=undef) (a':=?_) #[true,true,true,true,true,true,true,true,true,true,true,true,true,true,true,true,true,true,true,true,true,false,false] rfl rfl (any_of HT_.out (by kernel_rfl)) (fun _ _ _ h => h) (Or.inr ⟨by rfl,rfl⟩) ?_ ?_
         rotate_left
         ·simp only [Act.put,List.setIfInBounds_toArray,List.set_cons_zero,List.set_cons_succ,i64_w,i32_w]
          rfl
         refine pure_ (i:=21) (N:=some 45) (v:=undef) (a':=?_) #[true,true,true,true,true,true,true,true,true,true,true,true,true,true,true,true,true,true,true,true,true,true,false] rfl rfl (any_of HT_.out (by kernel_rfl)) (fun _ _ _ h => h) (Or.inr ⟨by rfl,rfl⟩) ?_ ?_
         rotate_left
         ·simp only [Act.put,List.setIfInBounds_toArray,List.set_cons_zero,List.set_cons_succ,i64_w,i32_w]
          rfl
         refine pure_ (i:=22) (N:=some 46) (v:=?_) (a':=?_) #[true,true,true,true,true,true,true,true,true,true,true,true,true,true,true,true,true,true,true,true,true,true,true] rfl rfl (any_of HT_.out (by kernel_rfl)) (fun _ _ _ h => h) (Or.inl ⟨by rfl,?_⟩) ?_ ?_
         rotate_left
         ·intro w'
          go_simp
          with_reducible rfl
         rotate_left
         ·simp only [Act.put,List.setIfInBounds_toArray,List.set_cons_zero,List.set_cons_succ,i64_w,i32_w]
          rfl
         refine done_ (done_of HT_.out (by kernel_rfl)) ?_
         have hcz16_0 : w15.cell? ⟨gb208,0,none⟩ = some (.string ((rd_T33 l0 x19_1).f0)):=(blk_cell BK208.out 0).trans rfl
         have hcz16_1 : w15.cell? ⟨gb208,1,none⟩ = some (.int .i64 ((rd_T33 l0 x19_1).f1)):=(blk_cell BK208.out 1).trans rfl
         have hcz16_2 : w15.cell? ⟨gb208,2,none⟩ = some (.bool ((rd_T33 l0 x19_1).f2)):=(blk_cell BK208.out 2).trans rfl
         have hcz16_3 : w15.cell? ⟨gb208,3,none⟩ = some (.int .i64 ((rd_T33 l0 x19_1).f3)):=(blk_cell BK208.out 3).trans rfl
         have hfz16_0:=blk_frozen BK208.out 0
         have hfz16_1:=blk_frozen BK208.out 1
         have hfz16_2:=blk_frozen BK208.out 2
         have hfz16_3:=blk_frozen BK208.out 3
         try go_wp2_with (first | ((with_reducible refine gate_builtin (b:=.append) (xs:=#[.tmp 47,.tmp 49]) rfl ?_);at_builtin;refine Kd.R_append k33 (w0:=w) w.heap.size rfl (.tmp 47) (.tmp 49) 26 33 (.agg #[(.string ⟨#[]⟩),(.int .i64 0),(.bool false),(.int .i64 0)]) 40 rfl Try.underlying26 info33 rfl (by decide) (by omega) u7 x7_1 (⟨(rd_T33 l0 x19_1).f0,(rd_T33 l0 x19_1).f1,(rd_T33 l0 x19_1).f2,(rd_T33 l0 x19_1).f3⟩ : S33) [.string ((rd_T33 l0 x19_1).f0),.int .i64 ((rd_T33 l0 x19_1).f1),.bool ((rd_T33 l0 x19_1).f2),.int .i64 ((rd_T33 l0 x19_1).f3)] (fun k_ => k_ ≠ gb208) (fun _ => False) rfl rfl ?aP (fun _ hk => hk.elim) ?aF ?aO ?aB ?aS ?aL ?_;(case aP => exact k33_mkM _ _ _ (⟨(rd_T33 l0 x19_1).f0,(rd_T33 l0 x19_1).f1,(rd_T33 l0 x19_1).f2,(rd_T33 l0 x19_1).f3⟩ : S33));(case aB => exact (by repeat (first | (with_reducible first | exact HB.out | apply below_alloc | apply pw_below_drewN | apply below_drew1 | refine below_set ?_ GE208.out) | exact HB.out)));(case aF => exact (fun k_ hk => Kd.freshB (g:=gb208) (o:=.cells #[.string ((rd_T33 l0 x19_1).f0),.int .i64 ((rd_T33 l0 x19_1).f1),.bool ((rd_T33 l0 x19_1).f2),.int .i64 ((rd_T33 l0 x19_1).f3)] 33 (0,0)) (by (with_reducible repeat (first | refine blk_drewN ?_ _ | refine blk_drew ?_ | refine blk_alloc ?_ _));exact BK208.out) k_ hk));(case aO => exact (by (with_reducible repeat (first | apply Kd.R_alloc | apply Kd.R_drewN | apply Kd.R_drew));exact HO_7.out));(case aS => exact (below_size (by repeat (first | (with_reducible first | exact HB.out | apply below_alloc | apply pw_below_drewN | apply below_drew1 | refine below_set ?_ GE208.out) | exact HB.out))));(case aL => have:=LMc11.out;omega);intro v210 w17 ho hb hg hat;rw [← Ny209.out] at ho;have n0_:=Aside0.mk (blk_grown (g:=gb208) (o:=.cells #[.string ((rd_T33 l0 x19_1).f0),.int .i64 ((rd_T33 l0 x19_1).f1),.bool ((rd_T33 l0 x19_1).f2),.int .i64 ((rd_T33 l0 x19_1).f3)] 33 (0,0)) (by (with_reducible repeat (first | refine blk_drewN ?_ _ | refine blk_drew ?_ | refine blk_alloc ?_ _));exact BK208.out) hg (Kd.R_away HO_7.out (fun _ hk => hk)));have n1_:=Aside0.mk (hb);have n2_:=Aside0.mk (ho);clear BK208;clear HB;clear HO_7;have BK208:=n0_;have HB:=n1_;have HO211:=n2_;clear n0_ n1_ n2_;clear ho hb hg hat))
         go_roundg k1
         case measure => have:=HK1.out;omega
         case rel => exact ⟨(y209),(wrap64 (x19_1 + 1)),(by first | rfl | (simp;done) | (simp [*];done)),H',⟨by have:=HK1.out;omega⟩,⟨by (with_reducible repeat (first | apply Kd.R_alloc | apply Kd.R_drewN | apply Kd.R_drew));exact Kd.R_mono HO211.out (fun _ hk => trivial)⟩,⟨by repeat (first | (with_reducible first | exact HB.out | apply below_alloc | apply pw_below_drewN | apply below_drew1 | refine below_set ?_ GE208.out) | exact HB.out)⟩⟩
        ·rw [if_neg c11] at H
         exact absurd H (by simp)
       ·rw [if_neg c10] at H
        have c10b0 : (x19_1 == 0) = false:=beq_eq_false_iff_ne.mpr c10
        have c10b1 : (x19_1 != 0) = true:=bne_iff_ne.mpr c10
        obtain ⟨ji18,hji18⟩ : ∃ j_ : Int,(wrap64 (x19_1 - 1)) = j_:=⟨_,rfl⟩
        replace H : (if 0 ≤ (ji18) then (if (ji18) < (l0.length : Int) then (if ((rd_T33 l0 (ji18)).f0).toList = ((rd_T33 l0 x19_1).f0).toList then ((impl_seen.f l1 ((rd_T33 l0 x19_1).f0) ((rd_T33 l0 x19_1).f1) ((rd_T33 l0 x19_1).f2) ((rd_T33 l0 x19_1).f3) ((rd_T33 l0 (ji18)).f0) ((rd_T33 l0 (ji18)).f1) ((rd_T33 l0 (ji18)).f2) ((rd_T33 l0 (ji18)).f3)).bind fun t214 => (if t214 = true then (if x7_1.length < 3518437208883 then (impl_RunTrim.l0 k1 l0 l1 a2 (x7_1 ++ [(⟨(rd_T33 l0 x19_1).f0,(rd_T33 l0 x19_1).f1,(rd_T33 l0 x19_1).f2,(rd_T33 l0 x19_1).f3⟩ : S33)]) l0 (l0.length : Int) (wrap64 (x19_1 + 1))) else (none)) else (impl_RunTrim.l0 k1 l0 l1 a2 x7_1 l0 (l0.length : Int) (wrap64 (x19_1 + 1))))) else (if x7_1.length < 3518437208883 then (impl_RunTrim.l0 k1 l0 l1 a2 (x7_1 ++ [(⟨(rd_T33 l0 x19_1).f0,(rd_T33 l0 x19_1).f1,(rd_T33 l0 x19_1).f2,(rd_T33 l0 x19_1).f3⟩ : S33)]) l0 (l0.length : Int) (wrap64 (x19_1 + 1))) else (none))) else (none)) else (none)) = some r:=by first | (rw [hji18] at H;exact H) | (simp only [hji18] at H ⊢;exact H)
        have hji18w : (IntKind.i64.wrap (x19_1 - 1)) = ji18:=(i64_w _).trans hji18
        by_cases c19 : 0 ≤ (ji18)
        ·rw [if_pos c19] at H
         have c19b0 : decide (0 ≤ (ji18)) = true:=decide_eq_true c19
         clear c19
         by_cases c20 : (ji18) < (l0.length : Int)
         ·rw [if_pos c20] at H
          have c20b0 : decide ((ji18) < (l0.length : Int)) = true:=decide_eq_true c20
          clear c20
          by_cases c21 : ((rd_T33 l0 (ji18)).f0).toList = ((rd_T33 l0 x19_1).f0).toList
          ·rw [if_pos c21] at H
           have c21b0 : (((rd_T33 l0 (ji18)).f0).toList == ((rd_T33 l0 x19_1).f0).toList) = true:=beq_iff_eq.mpr c21
           have c21b1 : (((rd_T33 l0 (ji18)).f0).toList != ((rd_T33 l0 x19_1).f0).toList) = false:=bne_eq_false_iff_eq.mpr c21
           clear c21
           replace H:=Option.bind_eq_some_iff.mp H
           obtain ⟨t214,A220,H⟩:=H
           replace H : (if t214 = true then (if x7_1.length < 3518437208883 then (impl_RunTrim.l0 k1 l0 l1 a2 (x7_1 ++ [(⟨(rd_T33 l0 x19_1).f0,(rd_T33 l0 x19_1).f1,(rd_T33 l0 x19_1).f2,(rd_T33 l0 x19_1).f3⟩ : S33)]) l0 (l0.length : Int) (wrap64 (x19_1 + 1))) else (none)) else (impl_RunTrim.l0 k1 l0 l1 a2 x7_1 l0 (l0.length : Int) (wrap64 (x19_1 + 1)))) = some r:=H
           have A22:=Aside0.mk A220
           clear A220
           by_cases c23 : t214 = true
           ·subst c23
            have H1 : (if x7_1.length < 3518437208883 then (impl_RunTrim.l0 k1 l0 l1 a2 (x7_1 ++ [(⟨(rd_T33 l0 x19_1).f0,(rd_T33 l0 x19_1).f1,(rd_T33 l0 x19_1).f2,(rd_T33 l0 x19_1).f3⟩ : S33)]) l0 (l0.length : Int) (wrap64 (x19_1 + 1))) else (none)) = some r:=by rw [if_pos rfl] at H;exact H
            clear H
            have H:=H1
            clear H1
            by_cases c24 : x7_1.length < 3518437208883
            ·rw [if_pos c24] at H
             have LMc24:=Aside0.mk c24
             clear c24
             obtain ⟨y215,hy215⟩ : ∃ y_ : List (S33),y_ = (x7_1 ++ [(⟨(rd_T33 l0 x19_1).f0,(rd_T33 l0 x19_1).f1,(rd_T33 l0 x19_1).f2,(rd_T33 l0 x19_1).f3⟩ : S33)]):=⟨_,rfl⟩
             replace H : (impl_RunTrim.l0 k1 l0 l1 a2 y215 l0 (l0.length : Int) (wrap64 (x19_1 + 1))) = some r:=by first | (rw [hy215];with_reducible exact H) | (have H2_:=(Option.bind_some _ _).symm.trans H;rw [hy215];with_reducible exact H2_) | (have H2_:=(Option.bind_some _ _).symm.trans H;with_reducible exact H2_) | with_reducible exact H | (rw [hy215];exact H) | exact H
             have Ny215:=Aside0.mk hy215
             clear hy215
             have H':=Aside0.mk H
             clear H
             have p207 : 0 ≤ (x19_1 : Int):=of_decide_eq_true (by first | (with_reducible assumption) | assumption)
             have q207 : x19_1 < (l0.length : Int):=of_decide_eq_true (by first | (with_reducible assumption) | assumption)
             obtain ⟨ad207,e207,hx207_0,hx207_1,hx207_2,hx207_3⟩:=at_T33 HR0.out x19_1 p207 q207
             cases e207
             replace hx207_0:=(HB.out.cell (World.block_lt_of_cell? w _ hx207_0)).trans hx207_0
             replace hx207_1:=(HB.out.cell (World.block_lt_of_cell? w _ hx207_1)).trans hx207_1
             replace hx207_2:=(HB.out.cell (World.block_lt_of_cell? w _ hx207_2)).trans hx207_2
             replace hx207_3:=(HB.out.cell (World.block_lt_of_cell? w _ hx207_3)).trans hx207_3
             replace p207:=eq_true p207
             replace q207:=eq_true q207
             try go_wp2_with (first | ((with_reducible refine gate_dst (N:=9) rfl ?_);refine box_event ?hg (N:=9) ?hd (cs:=#[.string (⟨#[]⟩ : ByteArray),.int .i64 0,.bool false,.int .i64 0]) (t:=33) ?hr ?_;(case hd => rfl);(case hg => rfl);(case hr => first | (go_simp;done) | (go_simp;rfl));intro gb208 hg w25 hbox hb;have n0_:=Aside0.mk (Kd.R_below (Kd.R_elderB (by (with_reducible repeat (first | apply Kd.R_alloc | apply Kd.R_drewN | apply Kd.R_drew));exact HO_7.out) gb208 (Nat.le_of_eq hg.symm)) hb);have n1_:=Aside0.mk (below_step (by repeat (first | (with_reducible first | exact HB.out | apply below_alloc | apply pw_below_drewN | apply below_drew1) | exact HB.out)) hb);have n2_:=Aside0.mk (hbox);have n3_:=Aside0.mk ((by rw [hg];exact (below_size (by repeat (first | (with_reducible first | exact HB.out | apply below_alloc | apply pw_below_drewN | apply below_drew1) | exact HB.out))) : w.heap.size ≤ gb208));have n4_:=Aside0.mk ((by rw [hg];exact (below_size (by repeat (first | (with_reducible first | exact HB.out | apply below_alloc | apply pw_below_drewN | apply below_drew1) | exact HB.out))) : w.heap.size ≤ gb208));clear HO_7;clear HB;have HO_7:=n0_;have HB:=n1_;have BK208:=n2_;have GW208:=n3_;have GE208:=n4_;clear n0_ n1_ n2_ n3_ n4_;clear hb hbox hg;have hcz26_0 : w25.cell? ⟨gb208,0,none⟩ = some (.string (⟨#[]⟩ : ByteArray)):=(blk_cell BK208.out 0).trans rfl;have hcz26_1 : w25.cell? ⟨gb208,1,none⟩ = some (.int .i64 0):=(blk_cell BK208.out 1).trans rfl;have hcz26_2 : w25.cell? ⟨gb208,2,none⟩ = some (.bool false):=(blk_cell BK208.out 2).trans rfl;have hcz26_3 : w25.cell? ⟨gb208,3,none⟩ = some (.int .i64 0):=(blk_cell BK208.out 3).trans rfl;have hfz26_0:=blk_frozen BK208.out 0;have hfz26_1:=blk_frozen BK208.out 1;have hfz26_2:=blk_frozen BK208.out 2;have hfz26_3:=blk_frozen BK208.out 3))
             have n0_ : Aside0 (Kd.R k33 33 ((((w25.setCell ⟨gb208,0,none⟩ (.string ((rd_T33 l0 x19_1).f0))).setCell ⟨gb208,1,none⟩ (.int .i64 ((rd_T33 l0 x19_1).f1))).setCell ⟨gb208,2,none⟩ (.bool ((rd_T33 l0 x19_1).f2))).setCell ⟨gb208,3,none⟩ (.int .i64 ((rd_T33 l0 x19_1).f3))) w.heap.size (fun k_ => k_ ≠ gb208) u7 x7_1):=⟨by (with_reducible repeat (first | apply Kd.R_alloc | apply Kd.R_drewN | apply Kd.R_drew));exact Kd.R_mono (Kd.R_far (p:=⟨gb208,3,none⟩) (Kd.R_far (p:=⟨gb208,2,none⟩) (Kd.R_far (p:=⟨gb208,1,none⟩) (Kd.R_far (p:=⟨gb208,0,none⟩) (Kd.R_mono HO_7.out (fun k_ hk => (⟨hk,hk.2⟩ : _ ∧ k_ ≠ gb208))) (fun _ hk => hk.2) (.string ((rd_T33 l0 x19_1).f0))) (fun _ hk => hk.2) (.int .i64 ((rd_T33 l0 x19_1).f1))) (fun _ hk => hk.2) (.bool ((rd_T33 l0 x19_1).f2))) (fun _ hk => hk.2) (.int .i64 ((rd_T33 l0 x19_1).f3))) (fun _ hk => hk.1.2)⟩
             have n1_ : Aside0 (((((w25.setCell ⟨gb208,0,none⟩ (.string ((rd_T33 l0 x19_1).f0))).setCell ⟨gb208,1,none⟩ (.int .i64 ((rd_T33 l0 x19_1).f1))).setCell ⟨gb208,2,none⟩ (.bool ((rd_T33 l0 x19_1).f2))).setCell ⟨gb208,3,none⟩ (.int .i64 ((rd_T33 l0 x19_1).f3))).heap[gb208]? = some (.cells #[.string ((rd_T33 l0 x19_1).f0),.int .i64 ((rd_T33 l0 x19_1).f1),.bool ((rd_T33 l0 x19_1).f2),.int .i64 ((rd_T33 l0 x19_1).f3)] 33 (0,0))):=⟨by (with_reducible repeat (first | refine blk_drewN ?_ _ | refine blk_drew ?_ | refine blk_alloc ?_ _));refine blk_put (cs:=#[.string ((rd_T33 l0 x19_1).f0),.int .i64 ((rd_T33 l0 x19_1).f1),.bool ((rd_T33 l0 x19_1).f2),.int .i64 0]) ?_ 3 _ rfl;(with_reducible repeat (first | refine blk_drewN ?_ _ | refine blk_drew ?_ | refine blk_alloc ?_ _));refine blk_put (cs:=#[.string ((rd_T33 l0 x19_1).f0),.int .i64 ((rd_T33 l0 x19_1).f1),.bool false,.int .i64 0]) ?_ 2 _ rfl;(with_reducible repeat (first | refine blk_drewN ?_ _ | refine blk_drew ?_ | refine blk_alloc ?_ _));refine blk_put (cs:=#[.string ((rd_T33 l0 x19_1).f0),.int .i64 0,.bool false,.int .i64 0]) ?_ 1 _ rfl;(with_reducible repeat (first | refine blk_drewN ?_ _ | refine blk_drew ?_ | refine blk_alloc ?_ _));refine blk_put (cs:=#[.string (⟨#[]⟩ : ByteArray),.int .i64 0,.bool false,.int .i64 0]) ?_ 0 _ rfl;(with_reducible repeat (first | refine blk_drewN ?_ _ | refine blk_drew ?_ | refine blk_alloc ?_ _));exact BK208.out⟩
             have n2_ : Aside0 (Below w.heap.size w ((((w25.setCell ⟨gb208,0,none⟩ (.string ((rd_T33 l0 x19_1).f0))).setCell ⟨gb208,1,none⟩ (.int .i64 ((rd_T33 l0 x19_1).f1))).setCell ⟨gb208,2,none⟩ (.bool ((rd_T33 l0 x19_1).f2))).setCell ⟨gb208,3,none⟩ (.int .i64 ((rd_T33 l0 x19_1).f3)))):=⟨by repeat (first | (with_reducible first | exact HB.out | apply below_alloc | apply pw_below_drewN | apply below_drew1 | refine below_set ?_ GE208.out) | exact HB.out)⟩
             (try clear HO_7)
             (try clear BK208)
             (try clear HB)
             generalize ((((w25.setCell ⟨gb208,0,none⟩ (.string ((rd_T33 l0 x19_1).f0))).setCell ⟨gb208,1,none⟩ (.int .i64 ((rd_T33 l0 x19_1).f1))).setCell ⟨gb208,2,none⟩ (.bool ((rd_T33 l0 x19_1).f2))).setCell ⟨gb208,3,none⟩ (.int .i64 ((rd_T33 l0 x19_1).f3))) = w27 at n0_ n1_ n2_ ⊢
             have HO_7:=n0_
             have BK208:=n1_
             have HB:=n2_
             clear n0_ n1_ n2_
             have n0_:=Aside0.mk (Kd.R_drew HO_7.out)
             have n1_:=Aside0.mk (blk_drew BK208.out)
             have n2_:=Aside0.mk (below_drew1 HB.out)
             clear HO_7
             clear BK208
             clear HB
             have HO_7:=n0_
             have BK208:=n1_
             have HB:=n2_
             clear n0_ n1_ n2_
             have p212 : 0 ≤ ((ji18) : Int):=of_decide_eq_true (by first | (with_reducible assumption) | assumption)
             have q212 : (ji18) < (l0.length : Int):=of_decide_eq_true (by first | (with_reducible assumption) | assumption)
             obtain ⟨ad212,e212,hx212_0,hx212_1,hx212_2,hx212_3⟩:=at_T33 HR0.out (ji18) p212 q212
             have hw212_3:=hx212_3
             have hw212_2:=hx212_2
             have hw212_1:=hx212_1
             have hw212_0:=hx212_0
             obtain rfl : ad207 = ad212:=(by injection e212)
             replace hx212_0:=(HB.out.cell (World.block_lt_of_cell? w _ hx212_0)).trans hx212_0
             replace hx212_1:=(HB.out.cell (World.block_lt_of_cell? w _ hx212_1)).trans hx212_1
             replace hx212_2:=(HB.out.cell (World.block_lt_of_cell? w _ hx212_2)).trans hx212_2
             replace hx212_3:=(HB.out.cell (World.block_lt_of_cell? w _ hx212_3)).trans hx212_3
             replace p212:=eq_true p212
             replace q212:=eq_true q212
             have p213 : 0 ≤ ((ji18) : Int):=of_decide_eq_true (by first | (with_reducible assumption) | assumption)
             have q213 : (ji18) < (l0.length : Int):=of_decide_eq_true (by first | (with_reducible assumption) | assumption)
             obtain ⟨ad213,e213,hx213_0,hx213_1,hx213_2,hx213_3⟩:=at_T33 HR0.out (ji18) p213 q213
             have hw213_3:=hx213_3
             have hw213_2:=hx213_2
             have hw213_1:=hx213_1
             have hw213_0:=hx213_0
             obtain rfl : ad207 = ad213:=(by injection e213)
             replace hx213_0:=(HB.out.cell (World.block_lt_of_cell? w _ hx213_0)).trans hx213_0
             replace hx213_1:=(HB.out.cell (World.block_lt_of_cell? w _ hx213_1)).trans hx213_1
             replace hx213_2:=(HB.out.cell (World.block_lt_of_cell? w _ hx213_2)).trans hx213_2
             replace hx213_3:=(HB.out.cell (World.block_lt_of_cell? w _ hx213_3)).trans hx213_3
             replace p213:=eq_true p213
             replace q213:=eq_true q213
             refine start_ (n:=23) (S:=fun w' => w'.cell? ⟨gb208,0,none⟩ = some (.string ((rd_T33 l0 x19_1).f0)) ∧ w'.cell? ⟨gb208,1,none⟩ = some (.int .i64 ((rd_T33 l0 x19_1).f1)) ∧ w'.cell? ⟨gb208,2,none⟩ = some (.bool ((rd_T33 l0 x19_1).f2)) ∧ w'.cell? ⟨gb208,3,none⟩ = some (.int .i64 ((rd_T33 l0 x19_1).f3)) ∧ w'.cell? (ad207.add (((ji18)).toNat * 4)) = some (.string ((rd_T33 l0 (ji18)).f0)) ∧ w'.cell? ⟨(ad207.add (((ji18)).toNat * 4)).block,(ad207.add (((ji18)).toNat * 4)).off + 1,none⟩ = some (.int .i64 ((rd_T33 l0 (ji18)).f1)) ∧ w'.cell? ⟨(ad207.add (((ji18)).toNat * 4)).block,(ad207.add (((ji18)).toNat * 4)).off + 2,none⟩ = some (.bool ((rd_T33 l0 (ji18)).f2)) ∧ w'.cell? ⟨(ad207.add (((ji18)).toNat * 4)).block,(ad207.add (((ji18)).toNat * 4)).off + 3,none⟩ = some (.int .i64 ((rd_T33 l0 (ji18)).f3)) ∧ w'.cell? (ad207.add (((ji18)).toNat * 4)) = some (.string ((rd_T33 l0 (ji18)).f0)) ∧ w'.cell? ⟨(ad207.add (((ji18)).toNat * 4)).block,(ad207.add (((ji18)).toNat * 4)).off + 1,none⟩ = some (.int .i64 ((rd_T33 l0 (ji18)).f1)) ∧ w'.cell? ⟨(ad207.add (((ji18)).toNat * 4)).block,(ad207.add (((ji18)).toNat * 4)).off + 2,none⟩ = some (.bool ((rd_T33 l0 (ji18)).f2)) ∧ w'.cell? ⟨(ad207.add (((ji18)).toNat * 4)).block,(ad207.add (((ji18)).toNat * 4)).off + 3,none⟩ = some (.int .i64 ((rd_T33 l0 (ji18)).f3))) (ds:=[]) #[false,false,false,false,false,false,false,false,false,false,false,false,false,false,false,false,false,false,false,false,false,false,false] (by kernel_rfl) rfl rfl ⟨(blk_cell BK208.out 0).trans rfl,(blk_cell BK208.out 1).trans rfl,(blk_cell BK208.out 2).trans rfl,(blk_cell BK208.out 3).trans rfl,((HB.out.cell (World.block_lt_of_cell? w _ hw212_0)).trans hw212_0),((HB.out.cell (World.block_lt_of_cell? w _ hw212_1)).trans hw212_1),((HB.out.cell (World.block_lt_of_cell? w _ hw212_2)).trans hw212_2),((HB.out.cell (World.block_lt_of_cell? w _ hw212_3)).trans hw212_3),((HB.out.cell (World.block_lt_of_cell? w _ hw213_0)).trans hw213_0),((HB.out.cell (World.block_lt_of_cell? w _ hw213_1)).trans hw213_1),((HB.out.cell (World.block_lt_of_cell? w _ hw213_2)).trans hw213_2),((HB.out.cell (World.block_lt_of_cell? w _ hw213_3)).trans hw213_3)⟩ (fun hHeld => ?_);refine with_tabW impl_RunTrim.tab7 impl_RunTrim.bits7 (fun HT_ HW_ => ?_)
             generalize w27.drew = w28 at HO_7 BK208 HB hx212_0 hx212_1 hx212_2 hx212_3 hx213_0 hx213_1 hx213_2 hx213_3 hHeld ⊢
             refine pure_ (i:=0) (N:=some 24) (v:=?_) (a':=?_) #[true,false,false,false,false,false,false,false,false,false,false,false,false,false,false,false,false,false,false,false,false,false,false] rfl rfl (any_of HT_.out (by kernel_rfl)) (fun _ _ _ h => h) (Or.inl ⟨by rfl,?_⟩) ?_ ?_
             rotate_left
             ·intro w'
              go_simp
              with_reducible rfl
             rotate_left
             ·simp only [Act.put,List.setIfInBounds_toArray,List.set_cons_zero,List.set_cons_succ,i64_w,i32_w]
              rfl
             refine pure_ (i:=1) (N:=some 25) (v:=?_) (a':=?_) #[true,true,false,false,false,false,false,false,false,false,false,false,false,false,false,false,false,false,false,false,false,false,false] rfl rfl (any_of HT_.out (by kernel_rfl)) (fun _ _ _ h => h) (Or.inl ⟨by rfl,?_⟩) ?_ ?_
             rotate_left
             ·intro w'
              go_simp
              with_reducible rfl
             rotate_left
             ·simp only [Act.put,List.setIfInBounds_toArray,List.set_cons_zero,List.set_cons_succ,i64_w,i32_w]
              rfl
             refine pure_ (i:=2) (N:=some 26) (v:=?_) (a':=?_) #[true,true,true,false,false,false,false,false,false,false,false,false,false,false,false,false,false,false,false,false,false,false,false] rfl rfl (any_of HT_.out (by kernel_rfl)) (fun _ _ _ h => h) (Or.inl ⟨by rfl,?_⟩) ?_ ?_
             rotate_left
             ·intro w'
              go_simp
              with_reducible rfl
             rotate_left
             ·simp only [Act.put,List.setIfInBounds_toArray,List.set_cons_zero,List.set_cons_succ,i64_w,i32_w]
              rfl
             refine pure_ (i:=3) (N:=some 27) (v:=?_) (a':=?_) #[true,true,true,true,false,false,false,false,false,false,false,false,false,false,false,false,false,false,false,false,false,false,false] rfl rfl (any_of HT_.out (by kernel_rfl)) (fun _ _ _ h => h) (Or.inl ⟨by rfl,?_⟩) ?_ ?_
             rotate_left
             ·intro w'
              go_simp
              with_reducible rfl
             rotate_left
             ·simp only [Act.put,List.setIfInBounds_toArray,List.set_cons_zero,List.set_cons_succ,i64_w,i32_w]
              rfl
             refine pure_ (i:=4) (N:=some 28) (v:=?_) (a':=?_) #[true,true,true,true,true,false,false,false,false,false,false,false,false,false,false,false,false,false,false,false,false,false,false] rfl rfl (any_of HT_.out (by kernel_rfl)) (fun _ _ _ h => h) (Or.inl ⟨by rfl,?_⟩) ?_ ?_
             rotate_left
             ·intro w'
              go_simp
              with_reducible rfl
             rotate_left
             ·simp only [Act.put,List.setIfInBounds_toArray,List.set_cons_zero,List.set_cons_succ,i64_w,i32_w]
              rfl
             refine pure_ (i:=5) (N:=some 29) (v:=?_) (a':=?_) #[true,true,true,true,true,true,false,false,false,false,false,false,false,false,false,false,false,false,false,false,false,false,false] rfl rfl (any_of HT_.out (by kernel_rfl)) (fun _ _ _ h => h) (Or.inl ⟨by rfl,?_⟩) ?_ ?_
             rotate_left
             ·intro w'
              go_simp
              with_reducible rfl
             rotate_left
             ·simp only [Act.put,List.setIfInBounds_toArray,List.set_cons_zero,List.set_cons_succ,i64_w,i32_w]
              rfl
             refine pure_ (i:=6) (N:=some 30) (v:=?_) (a':=?_) #[true,true,true,true,true,true,true,false,false,false,false,false,false,false,false,false,false,false,false,false,false,false,false] rfl rfl (any_of HT_.out (by kernel_rfl)) (fun _ _ _ h => h) (Or.inl ⟨by rfl,?_⟩) ?_ ?_
             rotate_left
             ·intro w'
              go_simp
              with_reducible rfl
             rotate_left
             ·simp only [Act.put,List.setIfInBounds_toArray,List.set_cons_zero,List.set_cons_succ,i64_w,i32_w]
              rfl
             refine pure_ (i:=7) (N:=some 31) (v:=?_) (a':=?_) #[true,true,true,true,true,true,true,true,false,false,false,false,false,false,false,false,false,false,false,false,false,false,false] rfl rfl (any_of HT_.out (by kernel_rfl)) (fun _ _ _ h => h) (Or.inl ⟨by rfl,?_⟩) ?_ ?_
             rotate_left
             ·intro w'
              go_simp
              with_reducible rfl
             rotate_left
             ·simp only [Act.put,List.setIfInBounds_toArray,List.set_cons_zero,List.set_cons_succ,i64_w,i32_w]
              rfl
             refine pure_ (i:=9) (N:=some 33) (v:=?_) (a':=?_) #[true,true,true,true,true,true,true,true,false,true,false,false,false,false,false,false,false,false,false,false,false,false,false] rfl rfl (any_of HT_.out (by kernel_rfl)) (fun _ _ _ h => h) (Or.inl ⟨by rfl,?_⟩) ?_ ?_
             rotate_left
             ·intro w'
              go_simp
              with_reducible rfl
             rotate_left
             ·simp only [Act.put,List.setIfInBounds_toArray,List.set_cons_zero,List.set_cons_succ,i64_w,i32_w]
              rfl
             refine take_ (i:=8) (N:=some 32) (v:=?_) (a':=?_) #[true,true,true,true,true,true,true,true,true,true,false,false,false,false,false,false,false,false,false,false,false,false,false] rfl rfl (take_ofW HT_.out HW_.out (by kernel_rfl)) (fun _ _ _ h => h) (Or.inl ⟨by rfl,?_⟩) hHeld ?_ ?_
             rotate_left
             ·rintro w' ⟨s0,s1,s2,s3,s4,s5,s6,s7,s8,s9,s10,s11⟩
              go_simp
              with_reducible rfl
             rotate_left
             ·simp only [Act.put,List.setIfInBounds_toArray,List.set_cons_zero,List.set_cons_succ,i64_w,i32_w]
              rfl
             refine take_ (i:=10) (N:=some 34) (v:=?_) (a':=?_) #[true,true,true,true,true,true,true,true,true,true,true,false,false,false,false,false,false,false,false,false,false,false,false] rfl rfl (take_ofW HT_.out HW_.out (by kernel_rfl)) (fun _ _ _ h => h) (Or.inl ⟨by rfl,?_⟩) hHeld ?_ ?_
             rotate_left
             ·rintro w' ⟨s0,s1,s2,s3,s4,s5,s6,s7,s8,s9,s10,s11⟩
              go_simp
              with_reducible rfl
             rotate_left
             ·simp only [Act.put,List.setIfInBounds_toArray,List.set_cons_zero,List.set_cons_succ,i64_w,i32_w]
              rfl
             refine pure_ (i:=11) (N:=some 35) (v:=?_) (a':=?_) #[true,true,true,true,true,true,true,true,true,true,true,true,false,false,false,false,false,false,false,false,false,false,false] rfl rfl (any_of HT_.out (by kernel_rfl)) (fun _ _ _ h => h) (Or.inl ⟨by rfl,?_⟩) ?_ ?_
             rotate_left
             ·intro w'
              go_simp
              with_reducible rfl
             rotate_left
             ·simp only [Act.put,List.setIfInBounds_toArray,List.set_cons_zero,List.set_cons_succ,i64_w,i32_w]
              rfl
             refine pure_ (i:=12) (N:=some 36) (v:=?_) (a':=?_) #[true,true,true,true,true,true,true,true,true,true,true,true,true,false,false,false,false,false,false,false,false,false,false] rfl rfl (any_of HT_.out (by kernel_rfl)) (fun _ _ _ h => h) (Or.inl ⟨by rfl,?_⟩) ?_ ?_
             rotate_left
             ·intro w'
              go_simp
              with_reducible rfl
             rotate_left
             ·simp only [Act.put,List.setIfInBounds_toArray,List.set_cons_zero,List.set_cons_succ,i64_w,i32_w]
              rfl
             refine pure_ (i:=13) (N:=some 37) (v:=?_) (a':=?_) #[true,true,true,true,true,true,true,true,true,true,true,true,true,true,false,false,false,false,false,false,false,false,false] rfl rfl (any_of HT_.out (by kernel_rfl)) (fun _ _ _ h => h) (Or.inl ⟨by rfl,?_⟩) ?_ ?_
             rotate_left
             ·intro w'
              go_simp
              with_reducible rfl
             rotate_left
             ·simp only [Act.put,List.setIfInBounds_toArray,List.set_cons_zero,List.set_cons_succ,i64_w,i32_w]
              rfl
             refine pure_ (i:=14) (N:=some 38) (v:=?_) (a':=?_) #[true,true,true,true,true,true,true,true,true,true,true,true,true,true,true,false,false,false,false,false,false,false,false] rfl rfl (any_of HT_.out (by kernel_rfl)) (fun _ _ _ h => h) (Or.inl ⟨by rfl,?_⟩) ?_ ?_
             rotate_left
             ·intro w'
              go_simp
              with_reducible rfl
             rotate_left
             ·simp only [Act.put,List.setIfInBounds_toArray,List.set_cons_zero,List.set_cons_succ,i64_w,i32_w]
              rfl
             refine pure_ (i:=16) (N:=some 40) (v:=?_) (a':=?_) #[true,true,true,true,true,true,true,true,true,true,true,true,true,true,true,false,true,false,false,false,false,false,false] rfl rfl (any_of HT_.out (by kernel_rfl)) (fun _ _ _ h => h) (Or.inl ⟨by rfl,?_⟩) ?_ ?_
             rotate_left
             ·intro w'
              go_simp
              with_reducible rfl
             rotate_left
             ·simp only [Act.put,List.setIfInBounds_toArray,List.set_cons_zero,List.set_cons_succ,i64_w,i32_w]
              rfl
             refine pure_ (i:=17) (N:=some 41) (v:=?_) (a':=?_) #[true,true,true,true,true,true,true,true,true,true,true,true,true,true,true,false,true,true,false,false,false,false,false] rfl rfl (any_of HT_.out (by kernel_rfl)) (fun _ _ _ h => h) (Or.inl ⟨by rfl,?_⟩) ?_ ?_
             rotate_left
             ·intro w'
              go_simp
              with_reducible rfl
             rotate_left
             ·simp only [Act.put,List.setIfInBounds_toArray,List.set_cons_zero,List.set_cons_succ,i64_w,i32_w]
              rfl
             refine pure_ (i:=18) (N:=some 42) (v:=?_) (a':=?_) #[true,true,true,true,true,true,true,true,true,true,true,true,true,true,true,false,true,true,true,false,false,false,false] rfl rfl (any_of HT_.out (by kernel_rfl)) (fun _ _ _ h => h) (Or.inl ⟨by rfl,?_⟩) ?_ ?_
             rotate_left
             ·intro w'
              go_simp
              with_reducible rfl
             rotate_left
             ·simp only [Act.put,List.setIfInBounds_toArray,List.set_cons_zero,List.set_cons_succ,i64_w,i32_w]
              rfl
             refine pure_ (i:=19) (N:=some 43) (v:=?_) (a':=?_) #[true,true,true,true,true,true,true,true,true,true,true,true,true,true,true,false,true,true,true,true,false,false,false] rfl rfl (any_of HT_.out (by kernel_rfl)) (fun _ _ _ h => h) (Or.inl ⟨by rfl,?_⟩) ?_ ?_
             rotate_left
             ·intro w'
              go_simp
              with_reducible rfl
             rotate_left
             ·simp only [Act.put,List.setIfInBounds_toArray,List.set_cons_zero,List.set_cons_succ,i64_w,i32_w]
              rfl
             refine take_ (i:=15) (N:=some 39) (v:=?_) (a':=?_) #[true,true,true,true,true,true,true,true,true,true,true,true,true,true,true,true,true,true,true,true,false,false,false] rfl rfl (take_ofW HT_.out HW_.out (by kernel_rfl)) (fun _ _ _ h => h) (Or.inl ⟨by rfl,?_⟩) hHeld ?_ ?_
             rotate_left
             ·rintro w' ⟨s0,s1,s2,s3,s4,s5,s6,s7,s8,s9,s10,s11⟩
              go_simp
              with_reducible rfl
             rotate_left
             ·simp only [Act.put,List.setIfInBounds_toArray,List.set_cons_zero,List.set_cons_succ,i64_w,i32_w]
              rfl
             refine take_ (i:=20) (N:=some 44) (v:=?_) (a':=?_) #[true,true,true,true,true,true,true,true,true,true,true,true,true,true,true,true,true,true,true,true,true,false,false] rfl rfl (take_ofW HT_.out HW_.out (by kernel_rfl)) (fun _ _ _ h => h) (Or.inl ⟨by rfl,?_⟩) hHeld ?_ ?_
             rotate_left
             ·rintro w' ⟨s0,s1,s2,s3,s4,s5,s6,s7,s8,s9,s10,s11⟩
              go_simp
              with_reducible rfl
             rotate_left
             ·simp only [Act.put,List.setIfInBounds_toArray,List.set_cons_zero,List.set_cons_succ,i64_w,i32_w]
              rfl
             refine one_ (i:=21) (N:=some 45) #[true,true,true,true,true,true,true,true,true,true,true,true,true,true,true,true,true,true,true,true,true,true,false] rfl rfl (one_of HT_.out (by kernel_rfl)) (by decide) (fun K hK => ?_)
             refine goes_ Try.func48 (by kernel_rfl) rfl #[.slice A1 l1.length c1,.agg #[.string ((rd_T33 l0 x19_1).f0),.int .i64 ((rd_T33 l0 x19_1).f1),.bool ((rd_T33 l0 x19_1).f2),.int .i64 ((rd_T33 l0 x19_1).f3)],.agg #[.string ((rd_T33 l0 (ji18)).f0),.int .i64 ((rd_T33 l0 (ji18)).f1),.bool ((rd_T33 l0 (ji18)).f2),.int .i64 ((rd_T33 l0 (ji18)).f3)]] (by rfl) rfl rfl (by (try simp only [List.map_toArray,List.map_cons,List.map_nil]);first | done | (simp only [hji18];rfl) | rfl | (simp only [List.length_drop,List.length_take];rfl)) ?_
             with_reducible refine (impl_seen.calls _ _ l1 ((rd_T33 l0 x19_1).f0) ((rd_T33 l0 x19_1).f1) ((rd_T33 l0 x19_1).f2) ((rd_T33 l0 x19_1).f3) ((rd_T33 l0 (ji18)).f0) ((rd_T33 l0 (ji18)).f1) ((rd_T33 l0 (ji18)).f2) ((rd_T33 l0 (ji18)).f3) true _ ?side1 ?side2 A22.out).mono ?_
             (case side1 => repeat (first | exact (Kd.C_below HR1.out HB.out) | (with_reducible refine Kd.C_alloc ?_ _) | (with_reducible refine Kd.C_drewN ?_ _) | (with_reducible refine Kd.C_drew ?_)))
             (case side2 => exact HC1.out)
             rintro e w29 ⟨rfl,hb⟩
             refine ⟨_,rfl,?_⟩
             have n0_:=Aside0.mk (Kd.R_below (by (with_reducible repeat (first | apply Kd.R_alloc | apply Kd.R_drewN | apply Kd.R_drew));exact HO_7.out) hb)
             have n1_:=Aside0.mk (blk_below (g:=gb208) (o:=.cells #[.string ((rd_T33 l0 x19_1).f0),.int .i64 ((rd_T33 l0 x19_1).f1),.bool ((rd_T33 l0 x19_1).f2),.int .i64 ((rd_T33 l0 x19_1).f3)] 33 (0,0)) (by (with_reducible repeat (first | refine blk_drewN ?_ _ | refine blk_drew ?_ | refine blk_alloc ?_ _));exact BK208.out) hb)
             have n2_:=Aside0.mk (below_step (by repeat (first | (with_reducible first | exact HB.out | apply below_alloc | apply pw_below_drewN | apply below_drew1 | refine below_set ?_ GE208.out) | exact HB.out)) hb)
             clear HO_7
             clear BK208
             clear HB
             have HO_7:=n0_
             have BK208:=n1_
             have HB:=n2_
             clear n0_ n1_ n2_
             (try clear hb)
             (try clear hb2)
             (try clear hk)
             (try clear hi)
             refine hK.out _ _ ⟨(blk_cell BK208.out 0).trans rfl,(blk_cell BK208.out 1).trans rfl,(blk_cell BK208.out 2).trans rfl,(blk_cell BK208.out 3).trans rfl,((HB.out.cell (World.block_lt_of_cell? w _ hw212_0)).trans hw212_0),((HB.out.cell (World.block_lt_of_cell? w _ hw212_1)).trans hw212_1),((HB.out.cell (World.block_lt_of_cell? w _ hw212_2)).trans hw212_2),((HB.out.cell (World.block_lt_of_cell? w _ hw212_3)).trans hw212_3),((HB.out.cell (World.block_lt_of_cell? w _ hw213_0)).trans hw213_0),((HB.out.cell (World.block_lt_of_cell? w _ hw213_1)).trans hw213_1),((HB.out.cell (World.block_lt_of_cell? w _ hw213_2)).trans hw213_2),((HB.out.cell (World.block_lt_of_cell? w _ hw213_3)).trans hw213_3)⟩ (fun hHeld => ?_)
             clear hK K
             refine norm_ (a':=?_) ?_ ?_
             rotate_left
             ·show Act.put _ (some 45) _ = _
              simp only [Act.put,List.setIfInBounds_toArray,List.set_cons_zero,List.set_cons_succ,i64_w,i32_w]
              rfl
             refine pure_ (i:=22) (N:=some 46) (v:=?_) (a':=?_) #[true,true,true,true,true,true,true,true,true,true,true,true,true,true,true,true,true,true,true,true,true,true,true] rfl rfl (any_of HT_.out (by kernel_rfl)) (fun _ _ _ h => h) (Or.inl ⟨by rfl,?_⟩) ?_ ?_
             rotate_left
             ·intro w'
              go_simp
              with_reducible rfl
             rotate_left
             ·simp only [Act.put,List.setIfInBounds_toArray,List.set_cons_zero,List.set_cons_succ,i64_w,i32_w]
              rfl
             refine done_ (done_of HT_.out (by kernel_rfl)) ?_
             have hcz30_0 : w29.cell? ⟨gb208,0,none⟩ = some (.string ((rd_T33 l0 x19_1).f0)):=(blk_cell BK208.out 0).trans rfl
             have hcz30_1 : w29.cell? ⟨gb208,1,none⟩ = some (.int .i64 ((rd_T33 l0 x19_1).f1)):=(blk_cell BK208.out 1).trans rfl
             have hcz30_2 : w29.cell? ⟨gb208,2,none⟩ = some (.bool ((rd_T33 l0 x19_1).f2)):=(blk_cell BK208.out 2).trans rfl
             have hcz30_3 : w29.cell? ⟨gb208,3,none⟩ = some (.int .i64 ((rd_T33 l0 x19_1).f3)):=(blk_cell BK208.out 3).trans rfl
             have hfz30_0:=blk_frozen BK208.out 0
             have hfz30_1:=blk_frozen BK208.out 1
             have hfz30_2:=blk_frozen BK208.out 2
             have hfz30_3:=blk_frozen BK208.out 3
             try go_wp2_with (first | ((with_reducible refine gate_builtin (b:=.append) (xs:=#[.tmp 47,.tmp 49]) rfl ?_);at_builtin;refine Kd.R_append k33 (w0:=w) w.heap.size rfl (.tmp 47) (.tmp 49) 26 33 (.agg #[(.string ⟨#[]⟩),(.int .i64 0),(.bool false),(.int .i64 0)]) 40 rfl Try.underlying26 info33 rfl (by decide) (by omega) u7 x7_1 (⟨(rd_T33 l0 x19_1).f0,(rd_T33 l0 x19_1).f1,(rd_T33 l0 x19_1).f2,(rd_T33 l0 x19_1).f3⟩ : S33) [.string ((rd_T33 l0 x19_1).f0),.int .i64 ((rd_T33 l0 x19_1).f1),.bool ((rd_T33 l0 x19_1).f2),.int .i64 ((rd_T33 l0 x19_1).f3)] (fun k_ => k_ ≠ gb208) (fun _ => False) rfl rfl ?aP (fun _ hk => hk.elim) ?aF ?aO ?aB ?aS ?aL ?_;(case aP => exact k33_mkM _ _ _ (⟨(rd_T33 l0 x19_1).f0,(rd_T33 l0 x19_1).f1,(rd_T33 l0 x19_1).f2,(rd_T33 l0 x19_1).f3⟩ : S33));(case aB => exact (by repeat (first | (with_reducible first | exact HB.out | apply below_alloc | apply pw_below_drewN | apply below_drew1 | refine below_set ?_ GE208.out) | exact HB.out)));(case aF => exact (fun k_ hk => Kd.freshB (g:=gb208) (o:=.cells #[.string ((rd_T33 l0 x19_1).f0),.int .i64 ((rd_T33 l0 x19_1).f1),.bool ((rd_T33 l0 x19_1).f2),.int .i64 ((rd_T33 l0 x19_1).f3)] 33 (0,0)) (by (with_reducible repeat (first | refine blk_drewN ?_ _ | refine blk_drew ?_ | refine blk_alloc ?_ _));exact BK208.out) k_ hk));(case aO => exact (by (with_reducible repeat (first | apply Kd.R_alloc | apply Kd.R_drewN | apply Kd.R_drew));exact HO_7.out));(case aS => exact (below_size (by repeat (first | (with_reducible first | exact HB.out | apply below_alloc | apply pw_below_drewN | apply below_drew1 | refine below_set ?_ GE208.out) | exact HB.out))));(case aL => have:=LMc24.out;omega);intro v216 w31 ho hb hg hat;rw [← Ny215.out] at ho;have n0_:=Aside0.mk (blk_grown (g:=gb208) (o:=.cells #[.string ((rd_T33 l0 x19_1).f0),.int .i64 ((rd_T33 l0 x19_1).f1),.bool ((rd_T33 l0 x19_1).f2),.int .i64 ((rd_T33 l0 x19_1).f3)] 33 (0,0)) (by (with_reducible repeat (first | refine blk_drewN ?_ _ | refine blk_drew ?_ | refine blk_alloc ?_ _));exact BK208.out) hg (Kd.R_away HO_7.out (fun _ hk => hk)));have n1_:=Aside0.mk (hb);have n2_:=Aside0.mk (ho);clear BK208;clear HB;clear HO_7;have BK208:=n0_;have HB:=n1_;have HO217:=n2_;clear n0_ n1_ n2_;clear ho hb hg hat))
             go_roundg k1
             case measure => have:=HK1.out;omega
             case rel => exact ⟨(y215),(wrap64 (x19_1 + 1)),(by first | rfl | (simp;done) | (simp [*];done)),H',⟨by have:=HK1.out;omega⟩,⟨by (with_reducible repeat (first | apply Kd.R_alloc | apply Kd.R_drewN | apply Kd.R_drew));exact Kd.R_mono HO217.out (fun _ hk => trivial)⟩,⟨by repeat (first | (with_reducible first | exact HB.out | apply below_alloc | apply pw_below_drewN | apply below_drew1 | refine below_set ?_ GE208.out) | exact HB.out)⟩⟩
            ·rw [if_neg c24] at H
             exact absurd H (by simp)
           ·replace c23:=Bool.eq_false_iff.mpr c23
            subst c23
            have H1 : (impl_RunTrim.l0 k1 l0 l1 a2 x7_1 l0 (l0.length : Int) (wrap64 (x19_1 + 1))) = some r:=by rw [if_neg (show ¬ (false = true) by decide)] at H;exact H
            clear H
            have H:=H1
            clear H1
            have H':=Aside0.mk H
            clear H
            have p207 : 0 ≤ (x19_1 : Int):=of_decide_eq_true (by first | (with_reducible assumption) | assumption)
            have q207 : x19_1 < (l0.length : Int):=of_decide_eq_true (by first | (with_reducible assumption) | assumption)
            obtain ⟨ad207,e207,hx207_0,hx207_1,hx207_2,hx207_3⟩:=at_T33 HR0.out x19_1 p207 q207
            cases e207
            replace hx207_0:=(HB.out.cell (World.block_lt_of_cell? w _ hx207_0)).trans hx207_0
            replace hx207_1:=(HB.out.cell (World.block_lt_of_cell? w _ hx207_1)).trans hx207_1
            replace hx207_2:=(HB.out.cell (World.block_lt_of_cell? w _ hx207_2)).trans hx207_2
            replace hx207_3:=(HB.out.cell (World.block_lt_of_cell? w _ hx207_3)).trans hx207_3
            replace p207:=eq_true p207
            replace q207:=eq_true q207
            try go_wp2_with (first | ((with_reducible refine gate_dst (N:=9) rfl ?_);refine box_event ?hg (N:=9) ?hd (cs:=#[.string (⟨#[]⟩ : ByteArray),.int .i64 0,.bool false,.int .i64 0]) (t:=33) ?hr ?_;(case hd => rfl);(case hg => rfl);(case hr => first | (go_simp;done) | (go_simp;rfl));intro gb208 hg w32 hbox hb;have n0_:=Aside0.mk (Kd.R_below (Kd.R_elderB (by (with_reducible repeat (first | apply Kd.R_alloc | apply Kd.R_drewN | apply Kd.R_drew));exact HO_7.out) gb208 (Nat.le_of_eq hg.symm)) hb);have n1_:=Aside0.mk (below_step (by repeat (first | (with_reducible first | exact HB.out | apply below_alloc | apply pw_below_drewN | apply below_drew1) | exact HB.out)) hb);have n2_:=Aside0.mk (hbox);have n3_:=Aside0.mk ((by rw [hg];exact (below_size (by repeat (first | (with_reducible first | exact HB.out | apply below_alloc | apply pw_below_drewN | apply below_drew1) | exact HB.out))) : w.heap.size ≤ gb208));have n4_:=Aside0.mk ((by rw [hg];exact (below_size (by repeat (first | (with_reducible first | exact HB.out | apply below_alloc | apply pw_below_drewN | apply below_drew1) | exact HB.out))) : w.heap.size ≤ gb208));clear HO_7;clear HB;have HO_7:=n0_;have HB:=n1_;have BK208:=n2_;have GW208:=n3_;have GE208:=n4_;clear n0_ n1_ n2_ n3_ n4_;clear hb hbox hg;have hcz33_0 : w32.cell? ⟨gb208,0,none⟩ = some (.string (⟨#[]⟩ : ByteArray)):=(blk_cell BK208.out 0).trans rfl;have hcz33_1 : w32.cell? ⟨gb208,1,none⟩ = some (.int .i64 0):=(blk_cell BK208.out 1).trans rfl;have hcz33_2 : w32.cell? ⟨gb208,2,none⟩ = some (.bool false):=(blk_cell BK208.out 2).trans rfl;have hcz33_3 : w32.cell? ⟨gb208,3,none⟩ = some (.int .i64 0):=(blk_cell BK208.out 3).trans rfl;have hfz33_0:=blk_frozen BK208.out 0;have hfz33_1:=blk_frozen BK208.out 1;have hfz33_2:=blk_frozen BK208.out 2;have hfz33_3:=blk_frozen BK208.out 3))
            have n0_ : Aside0 (Kd.R k33 33 ((((w32.setCell ⟨gb208,0,none⟩ (.string ((rd_T33 l0 x19_1).f0))).setCell ⟨gb208,1,none⟩ (.int .i64 ((rd_T33 l0 x19_1).f1))).setCell ⟨gb208,2,none⟩ (.bool ((rd_T33 l0 x19_1).f2))).setCell ⟨gb208,3,none⟩ (.int .i64 ((rd_T33 l0 x19_1).f3))) w.heap.size (fun k_ => k_ ≠ gb208) u7 x7_1):=⟨by (with_reducible repeat (first | apply Kd.R_alloc | apply Kd.R_drewN | apply Kd.R_drew));exact Kd.R_mono (Kd.R_far (p:=⟨gb208,3,none⟩) (Kd.R_far (p:=⟨gb208,2,none⟩) (Kd.R_far (p:=⟨gb208,1,none⟩) (Kd.R_far (p:=⟨gb208,0,none⟩) (Kd.R_mono HO_7.out (fun k_ hk => (⟨hk,hk.2⟩ : _ ∧ k_ ≠ gb208))) (fun _ hk => hk.2) (.string ((rd_T33 l0 x19_1).f0))) (fun _ hk => hk.2) (.int .i64 ((rd_T33 l0 x19_1).f1))) (fun _ hk => hk.2) (.bool ((rd_T33 l0 x19_1).f2))) (fun _ hk => hk.2) (.int .i64 ((rd_T33 l0 x19_1).f3))) (fun _ hk => hk.1.2)⟩
            have n1_ : Aside0 (((((w32.setCell ⟨gb208,0,none⟩ (.string ((rd_T33 l0 x19_1).f0))).setCell ⟨gb208,1,none⟩ (.int .i64 ((rd_T33 l0 x19_1).f1))).setCell ⟨gb208,2,none⟩ (.bool ((rd_T33 l0 x19_1).f2))).setCell ⟨gb208,3,none⟩ (.int .i64 ((rd_T33 l0 x19_1).f3))).heap[gb208]? = some (.cells #[.string ((rd_T33 l0 x19_1).f0),.int .i64 ((rd_T33 l0 x19_1).f1),.bool ((rd_T33 l0 x19_1).f2),.int .i64 ((rd_T33 l0 x19_1).f3)] 33 (0,0))):=⟨by (with_reducible repeat (first | refine blk_drewN ?_ _ | refine blk_drew ?_ | refine blk_alloc ?_ _));refine blk_put (cs:=#[.string ((rd_T33 l0 x19_1).f0),.int .i64 ((rd_T33 l0 x19_1).f1),.bool ((rd_T33 l0 x19_1).f2),.int .i64 0]) ?_ 3 _ rfl;(with_reducible repeat (first | refine blk_drewN ?_ _ | refine blk_drew ?_ | refine blk_alloc ?_ _));refine blk_put (cs:=#[.string ((rd_T33 l0 x19_1).f0),.int .i64 ((rd_T33 l0 x19_1).f1),.bool false,.int .i64 0]) ?_ 2 _ rfl;(with_reducible repeat (first | refine blk_drewN ?_ _ | refine blk_drew ?_ | refine blk_alloc ?_ _));refine blk_put (cs:=#[.string ((rd_T33 l0 x19_1).f0),.int .i64 0,.bool false,.int .i64 0]) ?_ 1 _ rfl;(with_reducible repeat (first | refine blk_drewN ?_ _ | refine blk_drew ?_ | refine blk_alloc ?_ _));refine blk_put (cs:=#[.string (⟨#[]⟩ : ByteArray),.int .i64 0,.bool false,.int .i64 0]) ?_ 0 _ rfl;(with_reducible repeat (first | refine blk_drewN ?_ _ | refine blk_drew ?_ | refine blk_alloc ?_ _));exact BK208.out⟩
            have n2_ : Aside0 (Below w.heap.size w ((((w32.setCell ⟨gb208,0,none⟩ (.string ((rd_T33 l0 x19_1).f0))).setCell ⟨gb208,1,none⟩ (.int .i64 ((rd_T33 l0 x19_1).f1))).setCell ⟨gb208,2,none⟩ (.bool ((rd_T33 l0 x19_1).f2))).setCell ⟨gb208,3,none⟩ (.int .i64 ((rd_T33 l0 x19_1).f3)))):=⟨by repeat (first | (with_reducible first | exact HB.out | apply below_alloc | apply pw_below_drewN | apply below_drew1 | refine below_set ?_ GE208.out) | exact HB.out)⟩
            (try clear HO_7)
            (try clear BK208)
            (try clear HB)
            generalize ((((w32.setCell ⟨gb208,0,none⟩ (.string ((rd_T33 l0 x19_1).f0))).setCell ⟨gb208,1,none⟩ (.int .i64 ((rd_T33 l0 x19_1).f1))).setCell ⟨gb208,2,none⟩ (.bool ((rd_T33 l0 x19_1).f2))).setCell ⟨gb208,3,none⟩ (.int .i64 ((rd_T33 l0 x19_1).f3))) = w34 at n0_ n1_ n2_ ⊢
            have HO_7:=n0_
            have BK208:=n1_
            have HB:=n2_
            clear n0_ n1_ n2_
            have n0_:=Aside0.mk (Kd.R_drew HO_7.out)
            have n1_:=Aside0.mk (blk_drew BK208.out)
            have n2_:=Aside0.mk (below_drew1 HB.out)
            clear HO_7
            clear BK208
            clear HB
            have HO_7:=n0_
            have BK208:=n1_
            have HB:=n2_
            clear n0_ n1_ n2_
            have p212 : 0 ≤ ((ji18) : Int):=of_decide_eq_true (by first | (with_reducible assumption) | assumption)
            have q212 : (ji18) < (l0.length : Int):=of_decide_eq_true (by first | (with_reducible assumption) | assumption)
            obtain ⟨ad212,e212,hx212_0,hx212_1,hx212_2,hx212_3⟩:=at_T33 HR0.out (ji18) p212 q212
            have hw212_3:=hx212_3
            have hw212_2:=hx212_2
            have hw212_1:=hx212_1
            have hw212_0:=hx212_0
            obtain rfl : ad207 = ad212:=(by injection e212)
            replace hx212_0:=(HB.out.cell (World.block_lt_of_cell? w _ hx212_0)).trans hx212_0
            replace hx212_1:=(HB.out.cell (World.block_lt_of_cell? w _ hx212_1)).trans hx212_1
            replace hx212_2:=(HB.out.cell (World.block_lt_of_cell? w _ hx212_2)).trans hx212_2
            replace hx212_3:=(HB.out.cell (World.block_lt_of_cell? w _ hx212_3)).trans hx212_3
            replace p212:=eq_true p212
            replace q212:=eq_true q212
            have p213 : 0 ≤ ((ji18) : Int):=of_decide_eq_true (by first | (with_reducible assumption) | assumption)
            have q213 : (ji18) < (l0.length : Int):=of_decide_eq_true (by first | (with_reducible assumption) | assumption)
            obtain ⟨ad213,e213,hx213_0,hx213_1,hx213_2,hx213_3⟩:=at_T33 HR0.out (ji18) p213 q213
            have hw213_3:=hx213_3
            have hw213_2:=hx213_2
            have hw213_1:=hx213_1
            have hw213_0:=hx213_0
            obtain rfl : ad207 = ad213:=(by injection e213)
            replace hx213_0:=(HB.out.cell (World.block_lt_of_cell? w _ hx213_0)).trans hx213_0
            replace hx213_1:=(HB.out.cell (World.block_lt_of_cell? w _ hx213_1)).trans hx213_1
            replace hx213_2:=(HB.out.cell (World.block_lt_of_cell? w _ hx213_2)).trans hx213_2
            replace hx213_3:=(HB.out.cell (World.block_lt_of_cell? w _ hx213_3)).trans hx213_3
            replace p213:=eq_true p213
            replace q213:=eq_true q213
            refine start_ (n:=23) (S:=fun w' => w'.cell? ⟨gb208,0,none⟩ = some (.string ((rd_T33 l0 x19_1).f0)) ∧ w'.cell? ⟨gb208,1,none⟩ = some (.int .i64 ((rd_T33 l0 x19_1).f1)) ∧ w'.cell? ⟨gb208,2,none⟩ = some (.bool ((rd_T33 l0 x19_1).f2)) ∧ w'.cell? ⟨gb208,3,none⟩ = some (.int .i64 ((rd_T33 l0 x19_1).f3)) ∧ w'.cell? (ad207.add (((ji18)).toNat * 4)) = some (.string ((rd_T33 l0 (ji18)).f0)) ∧ w'.cell? ⟨(ad207.add (((ji18)).toNat * 4)).block,(ad207.add (((ji18)).toNat * 4)).off + 1,none⟩ = some (.int .i64 ((rd_T33 l0 (ji18)).f1)) ∧ w'.cell? ⟨(ad207.add (((ji18)).toNat * 4)).block,(ad207.add (((ji18)).toNat * 4)).off + 2,none⟩ = some (.bool ((rd_T33 l0 (ji18)).f2)) ∧ w'.cell? ⟨(ad207.add (((ji18)).toNat * 4)).block,(ad207.add (((ji18)).toNat * 4)).off + 3,none⟩ = some (.int .i64 ((rd_T33 l0 (ji18)).f3)) ∧ w'.cell? (ad207.add (((ji18)).toNat * 4)) = some (.string ((rd_T33 l0 (ji18)).f0)) ∧ w'.cell? ⟨(ad207.add (((ji18)).toNat * 4)).block,(ad207.add (((ji18)).toNat * 4)).off + 1,none⟩ = some (.int .i64 ((rd_T33 l0 (ji18)).f1)) ∧ w'.cell? ⟨(ad207.add (((ji18)).toNat * 4)).block,(ad207.add (((ji18)).toNat * 4)).off + 2,none⟩ = some (.bool ((rd_T33 l0 (ji18)).f2)) ∧ w'.cell? ⟨(ad207.add (((ji18)).toNat * 4)).block,(ad207.add (((ji18)).toNat * 4)).off + 3,none⟩ = some (.int .i64 ((rd_T33 l0 (ji18)).f3))) (ds:=[]) #[false,false,false,false,false,false,false,false,false,false,false,false,false,false,false,false,false,false,false,false,false,false,false] (by kernel_rfl) rfl rfl ⟨(blk_cell BK208.out 0).trans rfl,(blk_cell BK208.out 1).trans rfl,(blk_cell BK208.out 2).trans rfl,(blk_cell BK208.out 3).trans rfl,((HB.out.cell (World.block_lt_of_cell? w _ hw212_0)).trans hw212_0),((HB.out.cell (World.block_lt_of_cell? w _ hw212_1)).trans hw212_1),((HB.out.cell (World.block_lt_of_cell? w _ hw212_2)).trans hw212_2),((HB.out.cell (World.block_lt_of_cell? w _ hw212_3)).trans hw212_3),((HB.out.cell (World.block_lt_of_cell? w _ hw213_0)).trans hw213_0),((HB.out.cell (World.block_lt_of_cell? w _ hw213_1)).trans hw213_1),((HB.out.cell (World.block_lt_of_cell? w _ hw213_2)).trans hw213_2),((HB.out.cell (World.block_lt_of_cell? w _ hw213_3)).trans hw213_3)⟩ (fun hHeld => ?_);refine with_tabW impl_RunTrim.tab7 impl_RunTrim.bits7 (fun HT_ HW_ => ?_)
            generalize w34.drew = w35 at HO_7 BK208 HB hx212_0 hx212_1 hx212_2 hx212_3 hx213_0 hx213_1 hx213_2 hx213_3 hHeld ⊢
            refine pure_ (i:=0) (N:=some 24) (v:=?_) (a':=?_) #[true,false,false,false,false,false,false,false,false,false,false,false,false,false,false,false,false,false,false,false,false,false,false] rfl rfl (any_of HT_.out (by kernel_rfl)) (fun _ _ _ h => h) (Or.inl ⟨by rfl,?_⟩) ?_ ?_
            rotate_left
            ·intro w'
             go_simp
             with_reducible rfl
            rotate_left
            ·simp only [Act.put,List.setIfInBounds_toArray,List.set_cons_zero,List.set_cons_succ,i64_w,i32_w]
             rfl
            refine pure_ (i:=1) (N:=some 25) (v:=?_) (a':=?_) #[true,true,false,false,false,false,false,false,false,false,false,false,false,false,false,false,false,false,false,false,false,false,false] rfl rfl (any_of HT_.out (by kernel_rfl)) (fun _ _ _ h => h) (Or.inl ⟨by rfl,?_⟩) ?_ ?_
            rotate_left
            ·intro w'
             go_simp
             with_reducible rfl
            rotate_left
            ·simp only [Act.put,List.setIfInBounds_toArray,List.set_cons_zero,List.set_cons_succ,i64_w,i32_w]
             rfl
            refine pure_ (i:=2) (N:=some 26) (v:=?_) (a':=?_) #[true,true,true,false,false,false,false,false,false,false,false,false,false,false,false,false,false,false,false,false,false,false,false] rfl rfl (any_of HT_.out (by kernel_rfl)) (fun _ _ _ h => h) (Or.inl ⟨by rfl,?_⟩) ?_ ?_
            rotate_left
            ·intro w'
             go_simp
             with_reducible rfl
            rotate_left
            ·simp only [Act.put,List.setIfInBounds_toArray,List.set_cons_zero,List.set_cons_succ,i64_w,i32_w]
             rfl
            refine pure_ (i:=3) (N:=some 27) (v:=?_) (a':=?_) #[true,true,true,true,false,false,false,false,false,false,false,false,false,false,false,false,false,false,false,false,false,false,false] rfl rfl (any_of HT_.out (by kernel_rfl)) (fun _ _ _ h => h) (Or.inl ⟨by rfl,?_⟩) ?_ ?_
            rotate_left
            ·intro w'
             go_simp
             with_reducible rfl
            rotate_left
            ·simp only [Act.put,List.setIfInBounds_toArray,List.set_cons_zero,List.set_cons_succ,i64_w,i32_w]
             rfl
            refine pure_ (i:=4) (N:=some 28) (v:=?_) (a':=?_) #[true,true,true,true,true,false,false,false,false,false,false,false,false,false,false,false,false,false,false,false,false,false,false] rfl rfl (any_of HT_.out (by kernel_rfl)) (fun _ _ _ h => h) (Or.inl ⟨by rfl,?_⟩) ?_ ?_
            rotate_left
            ·intro w'
             go_simp
             with_reducible rfl
            rotate_left
            ·simp only [Act.put,List.setIfInBounds_toArray,List.set_cons_zero,List.set_cons_succ,i64_w,i32_w]
             rfl
            refine pure_ (i:=5) (N:=some 29) (v:=?_) (a':=?_) #[true,true,true,true,true,true,false,false,false,false,false,false,false,false,false,false,false,false,false,false,false,false,false] rfl rfl (any_of HT_.out (by kernel_rfl)) (fun _ _ _ h => h) (Or.inl ⟨by rfl,?_⟩) ?_ ?_
            rotate_left
            ·intro w'
             go_simp
             with_reducible rfl
            rotate_left
            ·simp only [Act.put,List.setIfInBounds_toArray,List.set_cons_zero,List.set_cons_succ,i64_w,i32_w]
             rfl
            refine pure_ (i:=6) (N:=some 30) (v:=?_) (a':=?_) #[true,true,true,true,true,true,true,false,false,false,false,false,false,false,false,false,false,false,false,false,false,false,false] rfl rfl (any_of HT_.out (by kernel_rfl)) (fun _ _ _ h => h) (Or.inl ⟨by rfl,?_⟩) ?_ ?_
            rotate_left
            ·intro w'
             go_simp
             with_reducible rfl
            rotate_left
            ·simp only [Act.put,List.setIfInBounds_toArray,List.set_cons_zero,List.set_cons_succ,i64_w,i32_w]
             rfl
            refine pure_ (i:=7) (N:=some 31) (v:=?_) (a':=?_) #[true,true,true,true,true,true,true,true,false,false,false,false,false,false,false,false,false,false,false,false,false,false,false] rfl rfl (any_of HT_.out (by kernel_rfl)) (fun _ _ _ h => h) (Or.inl ⟨by rfl,?_⟩) ?_ ?_
            rotate_left
            ·intro w'
             go_simp
             with_reducible rfl
            rotate_left
            ·simp only [Act.put,List.setIfInBounds_toArray,List.set_cons_zero,List.set_cons_succ,i64_w,i32_w]
             rfl
            refine pure_ (i:=9) (N:=some 33) (v:=?_) (a':=?_) #[true,true,true,true,true,true,true,true,false,true,false,false,false,false,false,false,false,false,false,false,false,false,false] rfl rfl (any_of HT_.out (by kernel_rfl)) (fun _ _ _ h => h) (Or.inl ⟨by rfl,?_⟩) ?_ ?_
            rotate_left
            ·intro w'
             go_simp
             with_reducible rfl
            rotate_left
            ·simp only [Act.put,List.setIfInBounds_toArray,List.set_cons_zero,List.set_cons_succ,i64_w,i32_w]
             rfl
            refine take_ (i:=8) (N:=some 32) (v:=?_) (a':=?_) #[true,true,true,true,true,true,true,true,true,true,false,false,false,false,false,false,false,false,false,false,false,false,false] rfl rfl (take_ofW HT_.out HW_.out (by kernel_rfl)) (fun _ _ _ h => h) (Or.inl ⟨by rfl,?_⟩) hHeld ?_ ?_
            rotate_left
            ·rintro w' ⟨s0,s1,s2,s3,s4,s5,s6,s7,s8,s9,s10,s11⟩
             go_simp
             with_reducible rfl
            rotate_left
            ·simp only [Act.put,List.setIfInBounds_toArray,List.set_cons_zero,List.set_cons_succ,i64_w,i32_w]
             rfl
            refine take_ (i:=10) (N:=some 34) (v:=?_) (a':=?_) #[true,true,true,true,true,true,true,true,true,true,true,false,false,false,false,false,false,false,false,false,false,false,false] rfl rfl (take_ofW HT_.out HW_.out (by kernel_rfl)) (fun _ _ _ h => h) (Or.inl ⟨by rfl,?_⟩) hHeld ?_ ?_
            rotate_left
            ·rintro w' ⟨s0,s1,s2,s3,s4,s5,s6,s7,s8,s9,s10,s11⟩
             go_simp
             with_reducible rfl
            rotate_left
            ·simp only [Act.put,List.setIfInBounds_toArray,List.set_cons_zero,List.set_cons_succ,i64_w,i32_w]
             rfl
            refine pure_ (i:=11) (N:=some 35) (v:=?_) (a':=?_) #[true,true,true,true,true,true,true,true,true,true,true,true,false,false,false,false,false,false,false,false,false,false,false] rfl rfl (any_of HT_.out (by kernel_rfl)) (fun _ _ _ h => h) (Or.inl ⟨by rfl,?_⟩) ?_ ?_
            rotate_left
            ·intro w'
             go_simp
             with_reducible rfl
            rotate_left
            ·simp only [Act.put,List.setIfInBounds_toArray,List.set_cons_zero,List.set_cons_succ,i64_w,i32_w]
             rfl
            refine pure_ (i:=12) (N:=some 36) (v:=?_) (a':=?_) #[true,true,true,true,true,true,true,true,true,true,true,true,true,false,false,false,false,false,false,false,false,false,false] rfl rfl (any_of HT_.out (by kernel_rfl)) (fun _ _ _ h => h) (Or.inl ⟨by rfl,?_⟩) ?_ ?_
            rotate_left
            ·intro w'
             go_simp
             with_reducible rfl
            rotate_left
            ·simp only [Act.put,List.setIfInBounds_toArray,List.set_cons_zero,List.set_cons_succ,i64_w,i32_w]
             rfl
            refine pure_ (i:=13) (N:=some 37) (v:=?_) (a':=?_) #[true,true,true,true,true,true,true,true,true,true,true,true,true,true,false,false,false,false,false,false,false,false,false] rfl rfl (any_of HT_.out (by kernel_rfl)) (fun _ _ _ h => h) (Or.inl ⟨by rfl,?_⟩) ?_ ?_
            rotate_left
            ·intro w'
             go_simp
             with_reducible rfl
            rotate_left
            ·simp only [Act.put,List.setIfInBounds_toArray,List.set_cons_zero,List.set_cons_succ,i64_w,i32_w]
             rfl
            refine pure_ (i:=14) (N:=some 38) (v:=?_) (a':=?_) #[true,true,true,true,true,true,true,true,true,true,true,true,true,true,true,false,false,false,false,false,false,false,false] rfl rfl (any_of HT_.out (by kernel_rfl)) (fun _ _ _ h => h) (Or.inl ⟨by rfl,?_⟩) ?_ ?_
            rotate_left
            ·intro w'
             go_simp
             with_reducible rfl
            rotate_left
            ·simp only [Act.put,List.setIfInBounds_toArray,List.set_cons_zero,List.set_cons_succ,i64_w,i32_w]
             rfl
            refine pure_ (i:=16) (N:=some 40) (v:=?_) (a':=?_) #[true,true,true,true,true,true,true,true,true,true,true,true,true,true,true,false,true,false,false,false,false,false,false] rfl rfl (any_of HT_.out (by kernel_rfl)) (fun _ _ _ h => h) (Or.inl ⟨by rfl,?_⟩) ?_ ?_
            rotate_left
            ·intro w'
             go_simp
             with_reducible rfl
            rotate_left
            ·simp only [Act.put,List.setIfInBounds_toArray,List.set_cons_zero,List.set_cons_succ,i64_w,i32_w]
             rfl
            refine pure_ (i:=17) (N:=some 41) (v:=?_) (a':=?_) #[true,true,true,true,true,true,true,true,true,true,true,true,true,true,true,false,true,true,false,false,false,false,false] rfl rfl (any_of HT_.out (by kernel_rfl)) (fun _ _ _ h => h) (Or.inl ⟨by rfl,?_⟩) ?_ ?_
            rotate_left
            ·intro w'
             go_simp
             with_reducible rfl
            rotate_left
            ·simp only [Act.put,List.setIfInBounds_toArray,List.set_cons_zero,List.set_cons_succ,i64_w,i32_w]
             rfl
            refine pure_ (i:=18) (N:=some 42) (v:=?_) (a':=?_) #[true,true,true,true,true,true,true,true,true,true,true,true,true,true,true,false,true,true,true,false,false,false,false] rfl rfl (any_of HT_.out (by kernel_rfl)) (fun _ _ _ h => h) (Or.inl ⟨by rfl,?_⟩) ?_ ?_
            rotate_left
            ·intro w'
             go_simp
             with_reducible rfl
            rotate_left
            ·simp only [Act.put,List.setIfInBounds_toArray,List.set_cons_zero,List.set_cons_succ,i64_w,i32_w]
             rfl
            refine pure_ (i:=19) (N:=some 43) (v:=?_) (a':=?_) #[true,true,true,true,true,true,true,true,true,true,true,true,true,true,true,false,true,true,true,true,false,false,false] rfl rfl (any_of HT_.out (by kernel_rfl)) (fun _ _ _ h => h) (Or.inl ⟨by rfl,?_⟩) ?_ ?_
            rotate_left
            ·intro w'
             go_simp
             with_reducible rfl
            rotate_left
            ·simp only [Act.put,List.setIfInBounds_toArray,List.set_cons_zero,List.set_cons_succ,i64_w,i32_w]
             rfl
            refine take_ (i:=15) (N:=some 39) (v:=?_) (a':=?_) #[true,true,true,true,true,true,true,true,true,true,true,true,true,true,true,true,true,true,true,true,false,false,false] rfl rfl (take_ofW HT_.out HW_.out (by kernel_rfl)) (fun _ _ _ h => h) (Or.inl ⟨by rfl,?_⟩) hHeld ?_ ?_
            rotate_left
            ·rintro w' ⟨s0,s1,s2,s3,s4,s5,s6,s7,s8,s9,s10,s11⟩
             go_simp
             with_reducible rfl
            rotate_left
            ·simp only [Act.put,List.setIfInBounds_toArray,List.set_cons_zero,List.set_cons_succ,i64_w,i32_w]
             rfl
            refine take_ (i:=20) (N:=some 44) (v:=?_) (a':=?_) #[true,true,true,true,true,true,true,true,true,true,true,true,true,true,true,true,true,true,true,true,true,false,false] rfl rfl (take_ofW HT_.out HW_.out (by kernel_rfl)) (fun _ _ _ h => h) (Or.inl ⟨by rfl,?_⟩) hHeld ?_ ?_
            rotate_left
            ·rintro w' ⟨s0,s1,s2,s3,s4,s5,s6,s7,s8,s9,s10,s11⟩
             go_simp
             with_reducible rfl
            rotate_left
            ·simp only [Act.put,List.setIfInBounds_toArray,List.set_cons_zero,List.set_cons_succ,i64_w,i32_w]
             rfl
            refine one_ (i:=21) (N:=some 45) #[true,true,true,true,true,true,true,true,true,true,true,true,true,true,true,true,true,true,true,true,true,true,false] rfl rfl (one_of HT_.out (by kernel_rfl)) (by decide) (fun K hK => ?_)
            refine goes_ Try.func48 (by kernel_rfl) rfl #[.slice A1 l1.length c1,.agg #[.string ((rd_T33 l0 x19_1).f0),.int .i64 ((rd_T33 l0 x19_1).f1),.bool ((rd_T33 l0 x19_1).f2),.int .i64 ((rd_T33 l0 x19_1).f3)],.agg #[.string ((rd_T33 l0 (ji18)).f0),.int .i64 ((rd_T33 l0 (ji18)).f1),.bool ((rd_T33 l0 (ji18)).f2),.int .i64 ((rd_T33 l0 (ji18)).f3)]] (by rfl) rfl rfl (by (try simp only [List.map_toArray,List.map_cons,List.map_nil]);first | done | (simp only [hji18];rfl) | rfl | (simp only [List.length_drop,List.length_take];rfl)) ?_
            with_reducible refine (impl_seen.calls _ _ l1 ((rd_T33 l0 x19_1).f0) ((rd_T33 l0 x19_1).f1) ((rd_T33 l0 x19_1).f2) ((rd_T33 l0 x19_1).f3) ((rd_T33 l0 (ji18)).f0) ((rd_T33 l0 (ji18)).f1) ((rd_T33 l0 (ji18)).f2) ((rd_T33 l0 (ji18)).f3) false _ ?side1 ?side2 A22.out).mono ?_
            (case side1 => repeat (first | exact (Kd.C_below HR1.out HB.out) | (with_reducible refine Kd.C_alloc ?_ _) | (with_reducible refine Kd.C_drewN ?_ _) | (with_reducible refine Kd.C_drew ?_)))
            (case side2 => exact HC1.out)
            rintro e w36 ⟨rfl,hb⟩
            refine ⟨_,rfl,?_⟩
            have n0_:=Aside0.mk (Kd.R_below (by (with_reducible repeat (first | apply Kd.R_alloc | apply Kd.R_drewN | apply Kd.R_drew));exact HO_7.out) hb)
            have n1_:=Aside0.mk (blk_below (g:=gb208) (o:=.cells #[.string ((rd_T33 l0 x19_1).f0),.int .i64 ((rd_T33 l0 x19_1).f1),.bool ((rd_T33 l0 x19_1).f2),.int .i64 ((rd_T33 l0 x19_1).f3)] 33 (0,0)) (by (with_reducible repeat (first | refine blk_drewN ?_ _ | refine blk_drew ?_ | refine blk_alloc ?_ _));exact BK208.out) hb)
            have n2_:=Aside0.mk (below_step (by repeat (first | (with_reducible first | exact HB.out | apply below_alloc | apply pw_below_drewN | apply below_drew1 | refine below_set ?_ GE208.out) | exact HB.out)) hb)
            clear HO_7
            clear BK208
            clear HB
            have HO_7:=n0_
            have BK208:=n1_
            have HB:=n2_
            clear n0_ n1_ n2_
            (try clear hb)
            (try clear hb2)
            (try clear hk)
            (try clear hi)
            refine hK.out _ _ ⟨(blk_cell BK208.out 0).trans rfl,(blk_cell BK208.out 1).trans rfl,(blk_cell BK208.out 2).trans rfl,(blk_cell BK208.out 3).trans rfl,((HB.out.cell (World.block_lt_of_cell? w _ hw212_0)).trans hw212_0),((HB.out.cell (World.block_lt_of_cell? w _ hw212_1)).trans hw212_1),((HB.out.cell (World.block_lt_of_cell? w _ hw212_2)).trans hw212_2),((HB.out.cell (World.block_lt_of_cell? w _ hw212_3)).trans hw212_3),((HB.out.cell (World.block_lt_of_cell? w _ hw213_0)).trans hw213_0),((HB.out.cell (World.block_lt_of_cell? w _ hw213_1)).trans hw213_1),((HB.out.cell (World.block_lt_of_cell? w _ hw213_2)).trans hw213_2),((HB.out.cell (World.block_lt_of_cell? w _ hw213_3)).trans hw213_3)⟩ (fun hHeld => ?_)
            clear hK K
            refine norm_ (a':=?_) ?_ ?_
            rotate_left
            ·show Act.put _ (some 45) _ = _
             simp only [Act.put,List.setIfInBounds_toArray,List.set_cons_zero,List.set_cons_succ,i64_w,i32_w]
             rfl
            refine pure_ (i:=22) (N:=some 46) (v:=?_) (a':=?_) #[true,true,true,true,true,true,true,true,true,true,true,true,true,true,true,true,true,true,true,true,true,true,true] rfl rfl (any_of HT_.out (by kernel_rfl)) (fun _ _ _ h => h) (Or.inl ⟨by rfl,?_⟩) ?_ ?_
            rotate_left
            ·intro w'
             go_simp
             with_reducible rfl
            rotate_left
            ·simp only [Act.put,List.setIfInBounds_toArray,List.set_cons_zero,List.set_cons_succ,i64_w,i32_w]
             rfl
            refine done_ (done_of HT_.out (by kernel_rfl)) ?_
            try go_wp2
            go_roundg k1
            case measure => have:=HK1.out;omega
            case rel => exact ⟨(x7_1),(wrap64 (x19_1 + 1)),(by first | rfl | (simp;done) | (simp [*];done)),H',⟨by have:=HK1.out;omega⟩,⟨by (with_reducible repeat (first | apply Kd.R_alloc | apply Kd.R_drewN | apply Kd.R_drew));exact Kd.R_mono HO_7.out (fun _ hk => trivial)⟩,⟨by repeat (first | (with_reducible first | exact HB.out | apply below_alloc | apply pw_below_drewN | apply below_drew1 | refine below_set ?_ GE208.out) | exact HB.out)⟩⟩
          ·rw [if_neg c21] at H
           have c21b0 : (((rd_T33 l0 (ji18)).f0).toList == ((rd_T33 l0 x19_1).f0).toList) = false:=beq_eq_false_iff_ne.mpr c21
           have c21b1 : (((rd_T33 l0 (ji18)).f0).toList != ((rd_T33 l0 x19_1).f0).toList) = true:=bne_iff_ne.mpr c21
           by_cases c37 : x7_1.length < 3518437208883
           ·rw [if_pos c37] at H
            have LMc37:=Aside0.mk c37
            clear c37
            obtain ⟨y218,hy218⟩ : ∃ y_ : List (S33),y_ = (x7_1 ++ [(⟨(rd_T33 l0 x19_1).f0,(rd_T33 l0 x19_1).f1,(rd_T33 l0 x19_1).f2,(rd_T33 l0 x19_1).f3⟩ : S33)]):=⟨_,rfl⟩
            replace H : (impl_RunTrim.l0 k1 l0 l1 a2 y218 l0 (l0.length : Int) (wrap64 (x19_1 + 1))) = some r:=by first | (rw [hy218];with_reducible exact H) | (have H2_:=(Option.bind_some _ _).symm.trans H;rw [hy218];with_reducible exact H2_) | (have H2_:=(Option.bind_some _ _).symm.trans H;with_reducible exact H2_) | with_reducible exact H | (rw [hy218];exact H) | exact H
            have Ny218:=Aside0.mk hy218
            clear hy218
            have H':=Aside0.mk H
            clear H
            have p207 : 0 ≤ (x19_1 : Int):=of_decide_eq_true (by first | (with_reducible assumption) | assumption)
            have q207 : x19_1 < (l0.length : Int):=of_decide_eq_true (by first | (with_reducible assumption) | assumption)
            obtain ⟨ad207,e207,hx207_0,hx207_1,hx207_2,hx207_3⟩:=at_T33 HR0.out x19_1 p207 q207
            cases e207
            replace hx207_0:=(HB.out.cell (World.block_lt_of_cell? w _ hx207_0)).trans hx207_0
            replace hx207_1:=(HB.out.cell (World.block_lt_of_cell? w _ hx207_1)).trans hx207_1
            replace hx207_2:=(HB.out.cell (World.block_lt_of_cell? w _ hx207_2)).trans hx207_2
            replace hx207_3:=(HB.out.cell (World.block_lt_of_cell? w _ hx207_3)).trans hx207_3
            replace p207:=eq_true p207
            replace q207:=eq_true q207
            try go_wp2_with (first | ((with_reducible refine gate_dst (N:=9) rfl ?_);refine box_event ?hg (N:=9) ?hd (cs:=#[.string (⟨#[]⟩ : ByteArray),.int .i64 0,.bool false,.int .i64 0]) (t:=33) ?hr ?_;(case hd => rfl);(case hg => rfl);(case hr => first | (go_simp;done) | (go_simp;rfl));intro gb208 hg w38 hbox hb;have n0_:=Aside0.mk (Kd.R_below (Kd.R_elderB (by (with_reducible repeat (first | apply Kd.R_alloc | apply Kd.R_drewN | apply Kd.R_drew));exact HO_7.out) gb208 (Nat.le_of_eq hg.symm)) hb);have n1_:=Aside0.mk (below_step (by repeat (first | (with_reducible first | exact HB.out | apply below_alloc | apply pw_below_drewN | apply below_drew1) | exact HB.out)) hb);have n2_:=Aside0.mk (hbox);have n3_:=Aside0.mk ((by rw [hg];exact (below_size (by repeat (first | (with_reducible first | exact HB.out | apply below_alloc | apply pw_below_drewN | apply below_drew1) | exact HB.out))) : w.heap.size ≤ gb208));have n4_:=Aside0.mk ((by rw [hg];exact (below_size (by repeat (first | (with_reducible first | exact HB.out | apply below_alloc | apply pw_below_drewN | apply below_drew1) | exact HB.out))) : w.heap.size ≤ gb208));clear HO_7;clear HB;have HO_7:=n0_;have HB:=n1_;have BK208:=n2_;have GW208:=n3_;have GE208:=n4_;clear n0_ n1_ n2_ n3_ n4_;clear hb hbox hg;have hcz39_0 : w38.cell? ⟨gb208,0,none⟩ = some (.string (⟨#[]⟩ : ByteArray)):=(blk_cell BK208.out 0).trans rfl;have hcz39_1 : w38.cell? ⟨gb208,1,none⟩ = some (.int .i64 0):=(blk_cell BK208.out 1).trans rfl;have hcz39_2 : w38.cell? ⟨gb208,2,none⟩ = some (.bool false):=(blk_cell BK208.out 2).trans rfl;have hcz39_3 : w38.cell? ⟨gb208,3,none⟩ = some (.int .i64 0):=(blk_cell BK208.out 3).trans rfl;have hfz39_0:=blk_frozen BK208.out 0;have hfz39_1:=blk_frozen BK208.out 1;have hfz39_2:=blk_frozen BK208.out 2;have hfz39_3:=blk_frozen BK208.out 3))
            have n0_ : Aside0 (Kd.R k33 33 ((((w38.setCell ⟨gb208,0,none⟩ (.string ((rd_T33 l0 x19_1).f0))).setCell ⟨gb208,1,none⟩ (.int .i64 ((rd_T33 l0 x19_1).f1))).setCell ⟨gb208,2,none⟩ (.bool ((rd_T33 l0 x19_1).f2))).setCell ⟨gb208,3,none⟩ (.int .i64 ((rd_T33 l0 x19_1).f3))) w.heap.size (fun k_ => k_ ≠ gb208) u7 x7_1):=⟨by (with_reducible repeat (first | apply Kd.R_alloc | apply Kd.R_drewN | apply Kd.R_drew));exact Kd.R_mono (Kd.R_far (p:=⟨gb208,3,none⟩) (Kd.R_far (p:=⟨gb208,2,none⟩) (Kd.R_far (p:=⟨gb208,1,none⟩) (Kd.R_far (p:=⟨gb208,0,none⟩) (Kd.R_mono HO_7.out (fun k_ hk => (⟨hk,hk.2⟩ : _ ∧ k_ ≠ gb208))) (fun _ hk => hk.2) (.string ((rd_T33 l0 x19_1).f0))) (fun _ hk => hk.2) (.int .i64 ((rd_T33 l0 x19_1).f1))) (fun _ hk => hk.2) (.bool ((rd_T33 l0 x19_1).f2))) (fun _ hk => hk.2) (.int .i64 ((rd_T33 l0 x19_1).f3))) (fun _ hk => hk.1.2)⟩
            have n1_ : Aside0 (((((w38.setCell ⟨gb208,0,none⟩ (.string ((rd_T33 l0 x19_1).f0))).setCell ⟨gb208,1,none⟩ (.int .i64 ((rd_T33 l0 x19_1).f1))).setCell ⟨gb208,2,none⟩ (.bool ((rd_T33 l0 x19_1).f2))).setCell ⟨gb208,3,none⟩ (.int .i64 ((rd_T33 l0 x19_1).f3))).heap[gb208]? = some (.cells #[.string ((rd_T33 l0 x19_1).f0),.int .i64 ((rd_T33 l0 x19_1).f1),.bool ((rd_T33 l0 x19_1).f2),.int .i64 ((rd_T33 l0 x19_1).f3)] 33 (0,0))):=⟨by (with_reducible repeat (first | refine blk_drewN ?_ _ | refine blk_drew ?_ | refine blk_alloc ?_ _));refine blk_put (cs:=#[.string ((rd_T33 l0 x19_1).f0),.int .i64 ((rd_T33 l0 x19_1).f1),.bool ((rd_T33 l0 x19_1).f2),.int .i64 0]) ?_ 3 _ rfl;(with_reducible repeat (first | refine blk_drewN ?_ _ | refine blk_drew ?_ | refine blk_alloc ?_ _));refine blk_put (cs:=#[.string ((rd_T33 l0 x19_1).f0),.int .i64 ((rd_T33 l0 x19_1).f1),.bool false,.int .i64 0]) ?_ 2 _ rfl;(with_reducible repeat (first | refine blk_drewN ?_ _ | refine blk_drew ?_ | refine blk_alloc ?_ _));refine blk_put (cs:=#[.string ((rd_T33 l0 x19_1).f0),.int .i64 0,.bool false,.int .i64 0]) ?_ 1 _ rfl;(with_reducible repeat (first | refine blk_drewN ?_ _ | refine blk_drew ?_ | refine blk_alloc ?_ _));refine blk_put (cs:=#[.string (⟨#[]⟩ : ByteArray),.int .i64 0,.bool false,.int .i64 0]) ?_ 0 _ rfl;(with_reducible repeat (first | refine blk_drewN ?_ _ | refine blk_drew ?_ | refine blk_alloc ?_ _));exact BK208.out⟩
            have n2_ : Aside0 (Below w.heap.size w ((((w38.setCell ⟨gb208,0,none⟩ (.string ((rd_T33 l0 x19_1).f0))).setCell ⟨gb208,1,none⟩ (.int .i64 ((rd_T33 l0 x19_1).f1))).setCell ⟨gb208,2,none⟩ (.bool ((rd_T33 l0 x19_1).f2))).setCell ⟨gb208,3,none⟩ (.int .i64 ((rd_T33 l0 x19_1).f3)))):=⟨by repeat (first | (with_reducible first | exact HB.out | apply below_alloc | apply pw_below_drewN | apply below_drew1 | refine below_set ?_ GE208.out) | exact HB.out)⟩
            (try clear HO_7)
            (try clear BK208)
            (try clear HB)
            generalize ((((w38.setCell ⟨gb208,0,none⟩ (.string ((rd_T33 l0 x19_1).f0))).setCell ⟨gb208,1,none⟩ (.int .i64 ((rd_T33 l0 x19_1).f1))).setCell ⟨gb208,2,none⟩ (.bool ((rd_T33 l0 x19_1).f2))).setCell ⟨gb208,3,none⟩ (.int .i64 ((rd_T33 l0 x19_1).f3))) = w40 at n0_ n1_ n2_ ⊢
            have HO_7:=n0_
            have BK208:=n1_
            have HB:=n2_
            clear n0_ n1_ n2_
            have n0_:=Aside0.mk (Kd.R_drew HO_7.out)
            have n1_:=Aside0.mk (blk_drew BK208.out)
            have n2_:=Aside0.mk (below_drew1 HB.out)
            clear HO_7
            clear BK208
            clear HB
            have HO_7:=n0_
            have BK208:=n1_
            have HB:=n2_
            clear n0_ n1_ n2_
            have p212 : 0 ≤ ((ji18) : Int):=of_decide_eq_true (by first | (with_reducible assumption) | assumption)
            have q212 : (ji18) < (l0.length : Int):=of_decide_eq_true (by first | (with_reducible assumption) | assumption)
            obtain ⟨ad212,e212,hx212_0,hx212_1,hx212_2,hx212_3⟩:=at_T33 HR0.out (ji18) p212 q212
            have hw212_3:=hx212_3
            have hw212_2:=hx212_2
            have hw212_1:=hx212_1
            have hw212_0:=hx212_0
            obtain rfl : ad207 = ad212:=(by injection e212)
            replace hx212_0:=(HB.out.cell (World.block_lt_of_cell? w _ hx212_0)).trans hx212_0
            replace hx212_1:=(HB.out.cell (World.block_lt_of_cell? w _ hx212_1)).trans hx212_1
            replace hx212_2:=(HB.out.cell (World.block_lt_of_cell? w _ hx212_2)).trans hx212_2
            replace hx212_3:=(HB.out.cell (World.block_lt_of_cell? w _ hx212_3)).trans hx212_3
            replace p212:=eq_true p212
            replace q212:=eq_true q212
            refine start_ (n:=23) (S:=fun w' => w'.cell? ⟨gb208,0,none⟩ = some (.string ((rd_T33 l0 x19_1).f0)) ∧ w'.cell? ⟨gb208,1,none⟩ = some (.int .i64 ((rd_T33 l0 x19_1).f1)) ∧ w'.cell? ⟨gb208,2,none⟩ = some (.bool ((rd_T33 l0 x19_1).f2)) ∧ w'.cell? ⟨gb208,3,none⟩ = some (.int .i64 ((rd_T33 l0 x19_1).f3)) ∧ w'.cell? (ad207.add (((ji18)).toNat * 4)) = some (.string ((rd_T33 l0 (ji18)).f0)) ∧ w'.cell? ⟨(ad207.add (((ji18)).toNat * 4)).block,(ad207.add (((ji18)).toNat * 4)).off + 1,none⟩ = some (.int .i64 ((rd_T33 l0 (ji18)).f1)) ∧ w'.cell? ⟨(ad207.add (((ji18)).toNat * 4)).block,(ad207.add (((ji18)).toNat * 4)).off + 2,none⟩ = some (.bool ((rd_T33 l0 (ji18)).f2)) ∧ w'.cell? ⟨(ad207.add (((ji18)).toNat * 4)).block,(ad207.add (((ji18)).toNat * 4)).off + 3,none⟩ = some (.int .i64 ((rd_T33 l0 (ji18)).f3))) (ds:=[]) #[false,false,false,false,false,false,false,false,false,false,false,false,false,false,false,false,false,false,false,false,false,false,false] (by kernel_rfl) rfl rfl ⟨(blk_cell BK208.out 0).trans rfl,(blk_cell BK208.out 1).trans rfl,(blk_cell BK208.out 2).trans rfl,(blk_cell BK208.out 3).trans rfl,((HB.out.cell (World.block_lt_of_cell? w _ hw212_0)).trans hw212_0),((HB.out.cell (World.block_lt_of_cell? w _ hw212_1)).trans hw212_1),((HB.out.cell (World.block_lt_of_cell? w _ hw212_2)).trans hw212_2),((HB.out.cell (World.block_lt_of_cell? w _ hw212_3)).trans hw212_3)⟩ (fun hHeld => ?_);refine with_tabW impl_RunTrim.tab7 impl_RunTrim.bits7 (fun HT_ HW_ => ?_)
            generalize w40.drew = w41 at HO_7 BK208 HB hx212_0 hx212_1 hx212_2 hx212_3 hHeld ⊢
            refine pure_ (i:=0) (N:=some 24) (v:=?_) (a':=?_) #[true,false,false,false,false,false,false,false,false,false,false,false,false,false,false,false,false,false,false,false,false,false,false] rfl rfl (any_of HT_.out (by kernel_rfl)) (fun _ _ _ h => h) (Or.inl ⟨by rfl,?_⟩) ?_ ?_
            rotate_left
            ·intro w'
             go_simp
             with_reducible rfl
            rotate_left
            ·simp only [Act.put,List.setIfInBounds_toArray,List.set_cons_zero,List.set_cons_succ,i64_w,i32_w]
             rfl
            refine pure_ (i:=1) (N:=some 25) (v:=?_) (a':=?_) #[true,true,false,false,false,false,false,false,false,false,false,false,false,false,false,false,false,false,false,false,false,false,false] rfl rfl (any_of HT_.out (by kernel_rfl)) (fun _ _ _ h => h) (Or.inl ⟨by rfl,?_⟩) ?_ ?_
            rotate_left
            ·intro w'
             go_simp
             with_reducible rfl
            rotate_left
            ·simp only [Act.put,List.setIfInBounds_toArray,List.set_cons_zero,List.set_cons_succ,i64_w,i32_w]
             rfl
            refine pure_ (i:=2) (N:=some 26) (v:=?_) (a':=?_) #[true,true,true,false,false,false,false,false,false,false,false,false,false,false,false,false,false,false,false,false,false,false,false] rfl rfl (any_of HT_.out (by kernel_rfl)) (fun _ _ _ h => h) (Or.inl ⟨by rfl,?_⟩) ?_ ?_
            rotate_left
            ·intro w'
             go_simp
             with_reducible rfl
            rotate_left
            ·simp only [Act.put,List.setIfInBounds_toArray,List.set_cons_zero,List.set_cons_succ,i64_w,i32_w]
             rfl
            refine pure_ (i:=3) (N:=some 27) (v:=?_) (a':=?_) #[true,true,true,true,false,false,false,false,false,false,false,false,false,false,false,false,false,false,false,false,false,false,false] rfl rfl (any_of HT_.out (by kernel_rfl)) (fun _ _ _ h => h) (Or.inl ⟨by rfl,?_⟩) ?_ ?_
            rotate_left
            ·intro w'
             go_simp
             with_reducible rfl
            rotate_left
            ·simp only [Act.put,List.setIfInBounds_toArray,List.set_cons_zero,List.set_cons_succ,i64_w,i32_w]
             rfl
            refine pure_ (i:=4) (N:=some 28) (v:=?_) (a':=?_) #[true,true,true,true,true,false,false,false,false,false,false,false,false,false,false,false,false,false,false,false,false,false,false] rfl rfl (any_of HT_.out (by kernel_rfl)) (fun _ _ _ h => h) (Or.inl ⟨by rfl,?_⟩) ?_ ?_
            rotate_left
            ·intro w'
             go_simp
             with_reducible rfl
            rotate_left
            ·simp only [Act.put,List.setIfInBounds_toArray,List.set_cons_zero,List.set_cons_succ,i64_w,i32_w]
             rfl
            refine pure_ (i:=5) (N:=some 29) (v:=?_) (a':=?_) #[true,true,true,true,true,true,false,false,false,false,false,false,false,false,false,false,false,false,false,false,false,false,false] rfl rfl (any_of HT_.out (by kernel_rfl)) (fun _ _ _ h => h) (Or.inl ⟨by rfl,?_⟩) ?_ ?_
            rotate_left
            ·intro w'
             go_simp
             with_reducible rfl
            rotate_left
            ·simp only [Act.put,List.setIfInBounds_toArray,List.set_cons_zero,List.set_cons_succ,i64_w,i32_w]
             rfl
            refine pure_ (i:=6) (N:=some 30) (v:=?_) (a':=?_) #[true,true,true,true,true,true,true,false,false,false,false,false,false,false,false,false,false,false,false,false,false,false,false] rfl rfl (any_of HT_.out (by kernel_rfl)) (fun _ _ _ h => h) (Or.inl ⟨by rfl,?_⟩) ?_ ?_
            rotate_left
            ·intro w'
             go_simp
             with_reducible rfl
            rotate_left
            ·simp only [Act.put,List.setIfInBounds_toArray,List.set_cons_zero,List.set_cons_succ,i64_w,i32_w]
             rfl
            refine pure_ (i:=7) (N:=some 31) (v:=?_) (a':=?_) #[true,true,true,true,true,true,true,true,false,false,false,false,false,false,false,false,false,false,false,false,false,false,false] rfl rfl (any_of HT_.out (by kernel_rfl)) (fun _ _ _ h => h) (Or.inl ⟨by rfl,?_⟩) ?_ ?_
            rotate_left
            ·intro w'
             go_simp
             with_reducible rfl
            rotate_left
            ·simp only [Act.put,List.setIfInBounds_toArray,List.set_cons_zero,List.set_cons_succ,i64_w,i32_w]
             rfl
            refine pure_ (i:=9) (N:=some 33) (v:=?_) (a':=?_) #[true,true,true,true,true,true,true,true,false,true,false,false,false,false,false,false,false,false,false,false,false,false,false] rfl rfl (any_of HT_.out (by kernel_rfl)) (fun _ _ _ h => h) (Or.inl ⟨by rfl,?_⟩) ?_ ?_
            rotate_left
            ·intro w'
             go_simp
             with_reducible rfl
            rotate_left
            ·simp only [Act.put,List.setIfInBounds_toArray,List.set_cons_zero,List.set_cons_succ,i64_w,i32_w]
             rfl
            refine take_ (i:=8) (N:=some 32) (v:=?_) (a':=?_) #[true,true,true,true,true,true,true,true,true,true,false,false,false,false,false,false,false,false,false,false,false,false,false] rfl rfl (take_ofW HT_.out HW_.out (by kernel_rfl)) (fun _ _ _ h => h) (Or.inl ⟨by rfl,?_⟩) hHeld ?_ ?_
            rotate_left
            ·rintro w' ⟨s0,s1,s2,s3,s4,s5,s6,s7⟩
             go_simp
             with_reducible rfl
            rotate_left
            ·simp only [Act.put,List.setIfInBounds_toArray,List.set_cons_zero,List.set_cons_succ,i64_w,i32_w]
             rfl
            refine take_ (i:=10) (N:=some 34) (v:=?_) (a':=?_) #[true,true,true,true,true,true,true,true,true,true,true,false,false,false,false,false,false,false,false,false,false,false,false] rfl rfl (take_ofW HT_.out HW_.out (by kernel_rfl)) (fun _ _ _ h => h) (Or.inl ⟨by rfl,?_⟩) hHeld ?_ ?_
            rotate_left
            ·rintro w' ⟨s0,s1,s2,s3,s4,s5,s6,s7⟩
             go_simp
             with_reducible rfl
            rotate_left
            ·simp only [Act.put,List.setIfInBounds_toArray,List.set_cons_zero,List.set_cons_succ,i64_w,i32_w]
             rfl
            refine pure_ (i:=11) (N:=some 35) (v:=?_) (a':=?_) #[true,true,true,true,true,true,true,true,true,true,true,true,false,false,false,false,false,false,false,false,false,false,false] rfl rfl (any_of HT_.out (by kernel_rfl)) (fun _ _ _ h => h) (Or.inl ⟨by rfl,?_⟩) ?_ ?_
            rotate_left
            ·intro w'
             go_simp
             with_reducible rfl
            rotate_left
            ·simp only [Act.put,List.setIfInBounds_toArray,List.set_cons_zero,List.set_cons_succ,i64_w,i32_w]
             rfl
            refine pure_ (i:=12) (N:=some 36) (v:=?_) (a':=?_) #[true,true,true,true,true,true,true,true,true,true,true,true,true,false,false,false,false,false,false,false,false,false,false] rfl rfl (any_of HT_.out (by kernel_rfl)) (fun _ _ _ h => h) (Or.inl ⟨by rfl,?_⟩) ?_ ?_
            rotate_left
            ·intro w'
             go_simp
             with_reducible rfl
            rotate_left
            ·simp only [Act.put,List.setIfInBounds_toArray,List.set_cons_zero,List.set_cons_succ,i64_w,i32_w]
             rfl
            refine pure_ (i:=13) (N:=some 37) (v:=?_) (a':=?_) #[true,true,true,true,true,true,true,true,true,true,true,true,true,true,false,false,false,false,false,false,false,false,false] rfl rfl (any_of HT_.out (by kernel_rfl)) (fun _ _ _ h => h) (Or.inl ⟨by rfl,?_⟩) ?_ ?_
            rotate_left
            ·intro w'
             go_simp
             with_reducible rfl
            rotate_left
            ·simp only [Act.put,List.setIfInBounds_toArray,List.set_cons_zero,List.set_cons_succ,i64_w,i32_w]
             rfl
            refine pure_ (i:=14) (N:=some 38) (v:=undef) (a':=?_) #[true,true,true,true,true,true,true,true,true,true,true,true,true,true,true,false,false,false,false,false,false,false,false] rfl rfl (any_of HT_.out (by kernel_rfl)) (fun _ _ _ h => h) (Or.inr ⟨by rfl,rfl⟩) ?_ ?_
            rotate_left
            ·simp only [Act.put,List.setIfInBounds_toArray,List.set_cons_zero,List.set_cons_succ,i64_w,i32_w]
             rfl
            refine pure_ (i:=15) (N:=some 39) (v:=undef) (a':=?_) #[true,true,true,true,true,true,true,true,true,true,true,true,true,true,true,true,false,false,false,false,false,false,false] rfl rfl (any_of HT_.out (by kernel_rfl)) (fun _ _ _ h => h) (Or.inr ⟨by rfl,rfl⟩) ?_ ?_
            rotate_left
            ·simp only [Act.put,List.setIfInBounds_toArray,List.set_cons_zero,List.set_cons_succ,i64_w,i32_w]
             rfl
            refine pure_ (i:=16) (N:=some 40) (v:=undef) (a':=?_) #[true,true,true,true,true,true,true,true,true,true,true,true,true,true,true,true,true,false,false,false,false,false,false] rfl rfl (any_of HT_.out (by kernel_rfl)) (fun _ _ _ h => h) (Or.inr ⟨by rfl,rfl⟩) ?_ ?_
            rotate_left
            ·simp only [Act.put,List.setIfInBounds_toArray,List.set_cons_zero,List.set_cons_succ,i64_w,i32_w]
             rfl
            refine pure_ (i:=17) (N:=some 41) (v:=undef) (a':=?_) #[true,true,true,true,true,true,true,true,true,true,true,true,true,true,true,true,true,true,false,false,false,false,false] rfl rfl (any_of HT_.out (by kernel_rfl)) (fun _ _ _ h => h) (Or.inr ⟨by rfl,rfl⟩) ?_ ?_
            rotate_left
            ·simp only [Act.put,List.setIfInBounds_toArray,List.set_cons_zero,List.set_cons_succ,i64_w,i32_w]
             rfl
            refine pure_ (i:=18) (N:=some 42) (v:=undef) (a':=?_) #[true,true,true,true,true,true,true,true,true,true,true,true,true,true,true,true,true,true,true,false,false,false,false] rfl rfl (any_of HT_.out (by kernel_rfl)) (fun _ _ _ h => h) (Or.inr ⟨by rfl,rfl⟩) ?_ ?_
            rotate_left
            ·simp only [Act.put,List.setIfInBounds_toArray,List.set_cons_zero,List.set_cons_succ,i64_w,i32_w]
             rfl
            refine pure_ (i:=19) (N:=some 43) (v:=undef) (a':=?_) #[true,true,true,true,true,true,true,true,true,true,true,true,true,true,true,true,true,true,true,true,false,false,false] rfl rfl (any_of HT_.out (by kernel_rfl)) (fun _ _ _ h => h) (Or.inr ⟨by rfl,rfl⟩) ?_ ?_
            rotate_left
            ·simp only [Act.put,List.setIfInBounds_toArray,List.set_cons_zero,List.set_cons_succ,i64_w,i32_w]
             rfl
            refine pure_ (i:=20) (N:=some 44) (v:=undef) (a':=?_) #[true,true,true,true,true,true,true,true,true,true,true,true,true,true,true,true,true,true,true,true,true,false,false] rfl rfl (any_of HT_.out (by kernel_rfl)) (fun _ _ _ h => h) (Or.inr ⟨by rfl,rfl⟩) ?_ ?_
            rotate_left
            ·simp only [Act.put,List.setIfInBounds_toArray,List.set_cons_zero,List.set_cons_succ,i64_w,i32_w]
             rfl
            refine pure_ (i:=21) (N:=some 45) (v:=undef) (a':=?_) #[true,true,true,true,true,true,true,true,true,true,true,true,true,true,true,true,true,true,true,true,true,true,false] rfl rfl (any_of HT_.out (by kernel_rfl)) (fun _ _ _ h => h) (Or.inr ⟨by rfl,rfl⟩) ?_ ?_
            rotate_left
            ·simp only [Act.put,List.setIfInBounds_toArray,List.set_cons_zero,List.set_cons_succ,i64_w,i32_w]
             rfl
            refine pure_ (i:=22) (N:=some 46) (v:=?_) (a':=?_) #[true,true,true,true,true,true,true,true,true,true,true,true,true,true,true,true,true,true,true,true,true,true,true] rfl rfl (any_of HT_.out (by kernel_rfl)) (fun _ _ _ h => h) (Or.inl ⟨by rfl,?_⟩) ?_ ?_
            rotate_left
            ·intro w'
             go_simp
             with_reducible rfl
            rotate_left
            ·simp only [Act.put,List.setIfInBounds_toArray,List.set_cons_zero,List.set_cons_succ,i64_w,i32_w]
             rfl
            refine done_ (done_of HT_.out (by kernel_rfl)) ?_
            have hcz42_0 : w41.cell? ⟨gb208,0,none⟩ = some (.string ((rd_T33 l0 x19_1).f0)):=(blk_cell BK208.out 0).trans rfl
            have hcz42_1 : w41.cell? ⟨gb208,1,none⟩ = some (.int .i64 ((rd_T33 l0 x19_1).f1)):=(blk_cell BK208.out 1).trans rfl
            have hcz42_2 : w41.cell? ⟨gb208,2,none⟩ = some (.bool ((rd_T33 l0 x19_1).f2)):=(blk_cell BK208.out 2).trans rfl
            have hcz42_3 : w41.cell? ⟨gb208,3,none⟩ = some (.int .i64 ((rd_T33 l0 x19_1).f3)):=(blk_cell BK208.out 3).trans rfl
            have hfz42_0:=blk_frozen BK208.out 0
            have hfz42_1:=blk_frozen BK208.out 1
            have hfz42_2:=blk_frozen BK208.out 2
            have hfz42_3:=blk_frozen BK208.out 3
            try go_wp2_with (first | ((with_reducible refine gate_builtin (b:=.append) (xs:=#[.tmp 47,.tmp 49]) rfl ?_);at_builtin;refine Kd.R_append k33 (w0:=w) w.heap.size rfl (.tmp 47) (.tmp 49) 26 33 (.agg #[(.string ⟨#[]⟩),(.int .i64 0),(.bool false),(.int .i64 0)]) 40 rfl Try.underlying26 info33 rfl (by decide) (by omega) u7 x7_1 (⟨(rd_T33 l0 x19_1).f0,(rd_T33 l0 x19_1).f1,(rd_T33 l0 x19_1).f2,(rd_T33 l0 x19_1).f3⟩ : S33) [.string ((rd_T33 l0 x19_1).f0),.int .i64 ((rd_T33 l0 x19_1).f1),.bool ((rd_T33 l0 x19_1).f2),.int .i64 ((rd_T33 l0 x19_1).f3)] (fun k_ => k_ ≠ gb208) (fun _ => False) rfl rfl ?aP (fun _ hk => hk.elim) ?aF ?aO ?aB ?aS ?aL ?_;(case aP => exact k33_mkM _ _ _ (⟨(rd_T33 l0 x19_1).f0,(rd_T33 l0 x19_1).f1,(rd_T33 l0 x19_1).f2,(rd_T33 l0 x19_1).f3⟩ : S33));(case aB => exact (by repeat (first | (with_reducible first | exact HB.out | apply below_alloc | apply pw_below_drewN | apply below_drew1 | refine below_set ?_ GE208.out) | exact HB.out)));(case aF => exact (fun k_ hk => Kd.freshB (g:=gb208) (o:=.cells #[.string ((rd_T33 l0 x19_1).f0),.int .i64 ((rd_T33 l0 x19_1).f1),.bool ((rd_T33 l0 x19_1).f2),.int .i64 ((rd_T33 l0 x19_1).f3)] 33 (0,0)) (by (with_reducible repeat (first | refine blk_drewN ?_ _ | refine blk_drew ?_ | refine blk_alloc ?_ _));exact BK208.out) k_ hk));(case aO => exact (by (with_reducible repeat (first | apply Kd.R_alloc | apply Kd.R_drewN | apply Kd.R_drew));exact HO_7.out));(case aS => exact (below_size (by repeat (first | (with_reducible first | exact HB.out | apply below_alloc | apply pw_below_drewN | apply below_drew1 | refine below_set ?_ GE208.out) | exact HB.out))));(case aL => have:=LMc37.out;omega);intro v219 w43 ho hb hg hat;rw [← Ny218.out] at ho;have n0_:=Aside0.mk (blk_grown (g:=gb208) (o:=.cells #[.string ((rd_T33 l0 x19_1).f0),.int .i64 ((rd_T33 l0 x19_1).f1),.bool ((rd_T33 l0 x19_1).f2),.int .i64 ((rd_T33 l0 x19_1).f3)] 33 (0,0)) (by (with_reducible repeat (first | refine blk_drewN ?_ _ | refine blk_drew ?_ | refine blk_alloc ?_ _));exact BK208.out) hg (Kd.R_away HO_7.out (fun _ hk => hk)));have n1_:=Aside0.mk (hb);have n2_:=Aside0.mk (ho);clear BK208;clear HB;clear HO_7;have BK208:=n0_;have HB:=n1_;have HO220:=n2_;clear n0_ n1_ n2_;clear ho hb hg hat))
            go_roundg k1
            case measure => have:=HK1.out;omega
            case rel => exact ⟨(y218),(wrap64 (x19_1 + 1)),(by first | rfl | (simp;done) | (simp [*];done)),H',⟨by have:=HK1.out;omega⟩,⟨by (with_reducible repeat (first | apply Kd.R_alloc | apply Kd.R_drewN | apply Kd.R_drew));exact Kd.R_mono HO220.out (fun _ hk => trivial)⟩,⟨by repeat (first | (with_reducible first | exact HB.out | apply below_alloc | apply pw_below_drewN | apply below_drew1 | refine below_set ?_ GE208.out) | exact HB.out)⟩⟩
           ·rw [if_neg c37] at H
            exact absurd H (by simp)
         ·rw [if_neg c20] at H
          exact absurd H (by simp)
        ·rw [if_neg c19] at H
         exact absurd H (by simp)
      ·rw [if_neg c9] at H
       exact absurd H (by simp)
     ·rw [if_neg c8] at H
      exact absurd H (by simp)
    ·rw [if_neg c7] at H
     have c7b0 : decide (x19_1 < (l0.length : Int)) = false:=decide_eq_false c7
     clear c7
     have H':=Aside0.mk H
     clear H
     obtain ⟨Ao44,co44,eo44⟩:=Kd.R_slice HO_7.out
     subst eo44
     go_wp2
     go_loopg [10,54] k1 (fun kq v10 v54 w' => ∃ (x10_2 : List (S33)) (x54_2 : Int),v54 = .int .i64 x54_2 ∧ Aside0 (impl_RunTrim.l1 kq a2 x7_1 x10_2 x7_1 (x7_1.length : Int) x54_2 = some r) ∧ Aside0 (kq ≤ k1) ∧ Aside0 (Kd.R k33 33 w' w.heap.size (fun k_ => some k_ ≠ (v10 : Value).ownBlock) (.slice Ao44 x7_1.length co44) x7_1) ∧ Aside0 (Kd.R k33 33 w' w.heap.size (fun k_ => some k_ ≠ ((.slice Ao44 x7_1.length co44) : Value).ownBlock ∧ some k_ ≠ ((.slice Ao44 x7_1.length co44) : Value).ownBlock) v10 x10_2) ∧ Aside0 (Kd.R k33 33 w' w.heap.size (fun k_ => some k_ ≠ (v10 : Value).ownBlock) (.slice Ao44 x7_1.length co44) x7_1) ∧ Aside0 (Below w.heap.size w w'))
     case atStart => exact ⟨(([] : List (S33))),(0),(by first | rfl | (simp;done) | (simp [*];done)),H',⟨Nat.le_refl _⟩,⟨by (with_reducible repeat (first | apply Kd.R_alloc | apply Kd.R_drewN | apply Kd.R_drew));exact Kd.R_mono HO_7.out (fun _ hk => (by simp [Value.ownBlock]))⟩,⟨by first | exact Kd.R_nil _ _ _ _ _ | exact Kd.N_nil _ _ _ _ _ | exact Kd.V_nil _ _ _ _ _ | exact Kd.Q_nil _ _ _ _ _ | exact Kd.S_nil _ _ _ _ _⟩,⟨by (with_reducible repeat (first | apply Kd.R_alloc | apply Kd.R_drewN | apply Kd.R_drew));exact Kd.R_mono HO_7.out (fun _ hk => (by simp [Value.ownBlock]))⟩,⟨by repeat (first | (with_reducible first | exact HB.out | apply below_alloc | apply pw_below_drewN | apply below_drew1) | exact HB.out)⟩⟩
     case round =>
      clear H'
      try clear c1
      try clear c2
      try clear p2
      try clear q2
      try clear hx2
      try clear c3
      try clear c4
      try clear p6
      try clear c7
      try clear c7b0
      try clear c8
      try clear c9
      try clear c19
      try clear c20
      try clear p20
      try clear q20
      try clear hx20
      try clear c21
      try clear c21b0
      try clear c21b1
      try clear p21
      try clear q21
      try clear hx21
      try clear c23
      try clear c24
      try clear c37
      try clear hcz30_0
      try clear hcz30_1
      try clear hcz30_2
      try clear hcz30_3
      try clear hcz33_0
      try clear hcz33_1
      try clear hcz33_2
      try clear hcz33_3
      try clear hcz39_0
      try clear hcz39_1
      try clear hcz39_2
      try clear hcz39_3
      try clear hcz42_0
      try clear hcz42_1
      try clear hcz42_2
      try clear hcz42_3
      try clear hfz30_0
      try clear hfz30_1
      try clear hfz30_2
      try clear hfz30_3
      try clear hfz33_0
      try clear hfz33_1
      try clear hfz33_2
      try clear hfz33_3
      try clear hfz39_0
      try clear hfz39_1
      try clear hfz39_2
      try clear hfz39_3
      try clear hfz42_0
      try clear hfz42_1
      try clear hfz42_2
      try clear hfz42_3
      try clear hx207_0
      try clear hx207_1
      try clear hx207_2
      try clear hx207_3
      try clear hx212_0
      try clear hx212_1
      try clear hx212_2
      try clear hx212_3
      try clear hx213_0
      try clear hx213_1
      try clear hx213_2
      try clear hx213_3
      try clear p207
      try clear p212
      try clear p213
      try clear q207
      try clear q212
      try clear q213
      obtain ⟨x10_2,x54_2,rfl,HA,HK2,HO_7,HO_10,HO_52,HB⟩:=hrel
      cases gk with
      | zero => exact absurd HA.out (by simp [impl_RunTrim.l1])
      | succ k2 =>
       have H:=HA.out
       clear HA
       simp only [impl_RunTrim.l1] at H
       by_cases c45 : x54_2 < (x7_1.length : Int)
       ·rw [if_pos c45] at H
        have c45b0 : decide (x54_2 < (x7_1.length : Int)) = true:=decide_eq_true c45
        clear c45
        by_cases c46 : 0 ≤ x54_2
        ·rw [if_pos c46] at H
         have c46b0 : decide (0 ≤ x54_2) = true:=decide_eq_true c46
         clear c46
         by_cases c47 : x54_2 < (x7_1.length : Int)
         ·rw [if_pos c47] at H
          have c47b0 : decide (x54_2 < (x7_1.length : Int)) = true:=decide_eq_true c47
          clear c47
          by_cases c48 : (wrap64 (x54_2 + 1)) = (x7_1.length : Int)
          ·rw [if_pos c48] at H
           have c48b0 : ((wrap64 (x54_2 + 1)) == (x7_1.length : Int)) = true:=beq_iff_eq.mpr c48
           have c48b1 : ((wrap64 (x54_2 + 1)) != (x7_1.length : Int)) = false:=bne_eq_false_iff_eq.mpr c48
           clear c48
           by_cases c49 : a2 = true
           ·subst c49
            have H1 : (if ((rd_T33 x7_1 x54_2).f2 = true) then (impl_RunTrim.l1 k2 true x7_1 x10_2 x7_1 (x7_1.length : Int) (wrap64 (x54_2 + 1))) else (if x10_2.length < 3518437208883 then (impl_RunTrim.l1 k2 true x7_1 (x10_2 ++ [(⟨(rd_T33 x7_1 x54_2).f0,(rd_T33 x7_1 x54_2).f1,(rd_T33 x7_1 x54_2).f2,(rd_T33 x7_1 x54_2).f3⟩ : S33)]) x7_1 (x7_1.length : Int) (wrap64 (x54_2 + 1))) else (none))) = some r:=by rw [if_pos rfl] at H;exact H
            clear H
            have H:=H1
            clear H1
            obtain ⟨bq50,hbq50⟩ : ∃ b_ : Bool,b_ = ((rd_T33 x7_1 x54_2).f2):=⟨_,rfl⟩
            replace H : (if (bq50 = true) then (impl_RunTrim.l1 k2 true x7_1 x10_2 x7_1 (x7_1.length : Int) (wrap64 (x54_2 + 1))) else (if x10_2.length < 3518437208883 then (impl_RunTrim.l1 k2 true x7_1 (x10_2 ++ [(⟨(rd_T33 x7_1 x54_2).f0,(rd_T33 x7_1 x54_2).f1,bq50,(rd_T33 x7_1 x54_2).f3⟩ : S33)]) x7_1 (x7_1.length : Int) (wrap64 (x54_2 + 1))) else (none))) = some r:=by rw [← hbq50] at H;exact H
            have Nbq50:=Aside0.mk hbq50
            clear hbq50
            by_cases c51 : (bq50 = true)
            ·subst c51
             have H1 : (impl_RunTrim.l1 k2 true x7_1 x10_2 x7_1 (x7_1.length : Int) (wrap64 (x54_2 + 1))) = some r:=by rw [if_pos rfl] at H;exact H
             clear H
             have H:=H1
             clear H1
             have H':=Aside0.mk H
             clear H
             have p221 : 0 ≤ (x54_2 : Int):=of_decide_eq_true (by first | (with_reducible assumption) | assumption)
             have q221 : x54_2 < (x7_1.length : Int):=of_decide_eq_true (by first | (with_reducible assumption) | assumption)
             obtain ⟨ad221,e221,hx221_0,hx221_1,hx221_2,hx221_3⟩:=at_T33 (Kd.R_reads' HO_52.out).2.2 x54_2 p221 q221
             (try rw [← Nbq50.out] at hx221_2)
             cases e221
             replace p221:=eq_true p221
             replace q221:=eq_true q221
             try go_wp2_with (first | ((with_reducible refine gate_dst (N:=12) rfl ?_);refine box_event ?hg (N:=12) ?hd (cs:=#[.string (⟨#[]⟩ : ByteArray),.int .i64 0,.bool false,.int .i64 0]) (t:=33) ?hr ?_;(case hd => rfl);(case hg => rfl);(case hr => first | (go_simp;done) | (go_simp;rfl));intro gb222 hg w52 hbox hb;have n0_:=Aside0.mk (Kd.R_below (Kd.R_elderB (by (with_reducible repeat (first | apply Kd.R_alloc | apply Kd.R_drewN | apply Kd.R_drew));exact HO_7.out) gb222 (Nat.le_of_eq hg.symm)) hb);have n1_:=Aside0.mk (Kd.R_below (Kd.R_elderB (by (with_reducible repeat (first | apply Kd.R_alloc | apply Kd.R_drewN | apply Kd.R_drew));exact HO_10.out) gb222 (Nat.le_of_eq hg.symm)) hb);have n2_:=Aside0.mk (Kd.R_below (Kd.R_elderB (by (with_reducible repeat (first | apply Kd.R_alloc | apply Kd.R_drewN | apply Kd.R_drew));exact HO_52.out) gb222 (Nat.le_of_eq hg.symm)) hb);have n3_:=Aside0.mk (below_step (by repeat (first | (with_reducible first | exact HB.out | apply below_alloc | apply pw_below_drewN | apply below_drew1) | exact HB.out)) hb);have n4_:=Aside0.mk (hbox);have n5_:=Aside0.mk ((by rw [hg];exact (below_size (by repeat (first | (with_reducible first | exact HB.out | apply below_alloc | apply pw_below_drewN | apply below_drew1) | exact HB.out))) : w.heap.size ≤ gb222));have n6_:=Aside0.mk ((by rw [hg];exact (below_size (by repeat (first | (with_reducible first | exact HB.out | apply below_alloc | apply pw_below_drewN | apply below_drew1) | exact HB.out))) : w.heap.size ≤ gb222));clear HO_7;clear HO_10;clear HO_52;clear HB;have HO_7:=n0_;have HO_10:=n1_;have HO_52:=n2_;have HB:=n3_;have BK222:=n4_;have GW222:=n5_;have GE222:=n6_;clear n0_ n1_ n2_ n3_ n4_ n5_ n6_;clear hb hbox hg;have hcz53_0 : w52.cell? ⟨gb222,0,none⟩ = some (.string (⟨#[]⟩ : ByteArray)):=(blk_cell BK222.out 0).trans rfl;have hcz53_1 : w52.cell? ⟨gb222,1,none⟩ = some (.int .i64 0):=(blk_cell BK222.out 1).trans rfl;have hcz53_2 : w52.cell? ⟨gb222,2,none⟩ = some (.bool false):=(blk_cell BK222.out 2).trans rfl;have hcz53_3 : w52.cell? ⟨gb222,3,none⟩ = some (.int .i64 0):=(blk_cell BK222.out 3).trans rfl;have hfz53_0:=blk_frozen BK222.out 0;have hfz53_1:=blk_frozen BK222.out 1;have hfz53_2:=blk_frozen BK222.out 2;have hfz53_3:=blk_frozen BK222.out 3))
             have n0_ : Aside0 (Kd.R k33 33 ((((w52.setCell ⟨gb222,0,none⟩ (.string ((rd_T33 x7_1 x54_2).f0))).setCell ⟨gb222,1,none⟩ (.int .i64 ((rd_T33 x7_1 x54_2).f1))).setCell ⟨gb222,2,none⟩ (.bool true)).setCell ⟨gb222,3,none⟩ (.int .i64 ((rd_T33 x7_1 x54_2).f3))) w.heap.size (fun k_ => some k_ ≠ (u10 : Value).ownBlock ∧ k_ ≠ gb222) (.slice (some ad221) x7_1.length co44) x7_1):=⟨by (with_reducible repeat (first | apply Kd.R_alloc | apply Kd.R_drewN | apply Kd.R_drew));exact Kd.R_mono (Kd.R_far (p:=⟨gb222,3,none⟩) (Kd.R_far (p:=⟨gb222,2,none⟩) (Kd.R_far (p:=⟨gb222,1,none⟩) (Kd.R_far (p:=⟨gb222,0,none⟩) (Kd.R_mono HO_7.out (fun k_ hk => (⟨hk,hk.2⟩ : _ ∧ k_ ≠ gb222))) (fun _ hk => hk.2) (.string ((rd_T33 x7_1 x54_2).f0))) (fun _ hk => hk.2) (.int .i64 ((rd_T33 x7_1 x54_2).f1))) (fun _ hk => hk.2) (.bool true)) (fun _ hk => hk.2) (.int .i64 ((rd_T33 x7_1 x54_2).f3))) (fun _ hk => ⟨hk.1.1,hk.1.2⟩)⟩
             have n1_ : Aside0 (Kd.R k33 33 ((((w52.setCell ⟨gb222,0,none⟩ (.string ((rd_T33 x7_1 x54_2).f0))).setCell ⟨gb222,1,none⟩ (.int .i64 ((rd_T33 x7_1 x54_2).f1))).setCell ⟨gb222,2,none⟩ (.bool true)).setCell ⟨gb222,3,none⟩ (.int .i64 ((rd_T33 x7_1 x54_2).f3))) w.heap.size (fun k_ => some k_ ≠ (.slice (some ad221) x7_1.length co44 : Value).ownBlock ∧ some k_ ≠ (.slice (some ad221) x7_1.length co44 : Value).ownBlock ∧ k_ ≠ gb222) u10 x10_2):=⟨by (with_reducible repeat (first | apply Kd.R_alloc | apply Kd.R_drewN | apply Kd.R_drew));exact Kd.R_mono (Kd.R_far (p:=⟨gb222,3,none⟩) (Kd.R_far (p:=⟨gb222,2,none⟩) (Kd.R_far (p:=⟨gb222,1,none⟩) (Kd.R_far (p:=⟨gb222,0,none⟩) (Kd.R_mono HO_10.out (fun k_ hk => (⟨hk,hk.2⟩ : _ ∧ k_ ≠ gb222))) (fun _ hk => hk.2) (.string ((rd_T33 x7_1 x54_2).f0))) (fun _ hk => hk.2) (.int .i64 ((rd_T33 x7_1 x54_2).f1))) (fun _ hk => hk.2) (.bool true)) (fun _ hk => hk.2) (.int .i64 ((rd_T33 x7_1 x54_2).f3))) (fun _ hk => ⟨hk.1.1.1,⟨hk.1.1.2,hk.1.2⟩⟩)⟩
             have n2_ : Aside0 (Kd.R k33 33 ((((w52.setCell ⟨gb222,0,none⟩ (.string ((rd_T33 x7_1 x54_2).f0))).setCell ⟨gb222,1,none⟩ (.int .i64 ((rd_T33 x7_1 x54_2).f1))).setCell ⟨gb222,2,none⟩ (.bool true)).setCell ⟨gb222,3,none⟩ (.int .i64 ((rd_T33 x7_1 x54_2).f3))) w.heap.size (fun k_ => some k_ ≠ (u10 : Value).ownBlock ∧ k_ ≠ gb222) (.slice (some ad221) x7_1.length co44) x7_1):=⟨by (with_reducible repeat (first | apply Kd.R_alloc | apply Kd.R_drewN | apply Kd.R_drew));exact Kd.R_mono (Kd.R_far (p:=⟨gb222,3,none⟩) (Kd.R_far (p:=⟨gb222,2,none⟩) (Kd.R_far (p:=⟨gb222,1,none⟩) (Kd.R_far (p:=⟨gb222,0,none⟩) (Kd.R_mono HO_52.out (fun k_ hk => (⟨hk,hk.2⟩ : _ ∧ k_ ≠ gb222))) (fun _ hk => hk.2) (.string ((rd_T33 x7_1 x54_2).f0))) (fun _ hk => hk.2) (.int .i64 ((rd_T33 x7_1 x54_2).f1))) (fun _ hk => hk.2) (.bool true)) (fun _ hk => hk.2) (.int .i64 ((rd_T33 x7_1 x54_2).f3))) (fun _ hk => ⟨hk.1.1,hk.1.2⟩)⟩
             have n3_ : Aside0 (((((w52.setCell ⟨gb222,0,none⟩ (.string ((rd_T33 x7_1 x54_2).f0))).setCell ⟨gb222,1,none⟩ (.int .i64 ((rd_T33 x7_1 x54_2).f1))).setCell ⟨gb222,2,none⟩ (.bool true)).setCell ⟨gb222,3,none⟩ (.int .i64 ((rd_T33 x7_1 x54_2).f3))).heap[gb222]? = some (.cells #[.string ((rd_T33 x7_1 x54_2).f0),.int .i64 ((rd_T33 x7_1 x54_2).f1),.bool true,.int .i64 ((rd_T33 x7_1 x54_2).f3)] 33 (0,0))):=⟨by (with_reducible repeat (first | refine blk_drewN ?_ _ | refine blk_drew ?_ | refine blk_alloc ?_ _));refine blk_put (cs:=#[.string ((rd_T33 x7_1 x54_2).f0),.int .i64 ((rd_T33 x7_1 x54_2).f1),.bool true,.int .i64 0]) ?_ 3 _ rfl;(with_reducible repeat (first | refine blk_drewN ?_ _ | refine blk_drew ?_ | refine blk_alloc ?_ _));refine blk_put (cs:=#[.string ((rd_T33 x7_1 x54_2).f0),.int .i64 ((rd_T33 x7_1 x54_2).f1),.bool false,.int .i64 0]) ?_ 2 _ rfl;(with_reducible repeat (first | refine blk_drewN ?_ _ | refine blk_drew ?_ | refine blk_alloc ?_ _));refine blk_put (cs:=#[.string ((rd_T33 x7_1 x54_2).f0),.int .i64 0,.bool false,.int .i64 0]) ?_ 1 _ rfl;(with_reducible repeat (first | refine blk_drewN ?_ _ | refine blk_drew ?_ | refine blk_alloc ?_ _));refine blk_put (cs:=#[.string (⟨#[]⟩ : ByteArray),.int .i64 0,.bool false,.int .i64 0]) ?_ 0 _ rfl;(with_reducible repeat (first | refine blk_drewN ?_ _ | refine blk_drew ?_ | refine blk_alloc ?_ _));exact BK222.out⟩
             have n4_ : Aside0 (Below w.heap.size w ((((w52.setCell ⟨gb222,0,none⟩ (.string ((rd_T33 x7_1 x54_2).f0))).setCell ⟨gb222,1,none⟩ (.int .i64 ((rd_T33 x7_1 x54_2).f1))).setCell ⟨gb222,2,none⟩ (.bool true)).setCell ⟨gb222,3,none⟩ (.int .i64 ((rd_T33 x7_1 x54_2).f3)))):=⟨by repeat (first | (with_reducible first | exact HB.out | apply below_alloc | apply pw_below_drewN | apply below_drew1 | refine below_set ?_ GE222.out) | exact HB.out)⟩
             (try clear HO_7)
             (try clear HO_10)
             (try clear HO_52)
             (try clear BK222)
             (try clear HB)
             generalize ((((w52.setCell ⟨gb222,0,none⟩ (.string ((rd_T33 x7_1 x54_2).f0))).setCell ⟨gb222,1,none⟩ (.int .i64 ((rd_T33 x7_1 x54_2).f1))).setCell ⟨gb222,2,none⟩ (.bool true)).setCell ⟨gb222,3,none⟩ (.int .i64 ((rd_T33 x7_1 x54_2).f3))) = w54 at n0_ n1_ n2_ n3_ n4_ ⊢
             have HO_7:=n0_
             have HO_10:=n1_
             have HO_52:=n2_
             have BK222:=n3_
             have HB:=n4_
             clear n0_ n1_ n2_ n3_ n4_
             have n0_:=Aside0.mk (Kd.R_drew HO_7.out)
             have n1_:=Aside0.mk (Kd.R_drew HO_10.out)
             have n2_:=Aside0.mk (Kd.R_drew HO_52.out)
             have n3_:=Aside0.mk (blk_drew BK222.out)
             have n4_:=Aside0.mk (below_drew1 HB.out)
             clear HO_7
             clear HO_10
             clear HO_52
             clear BK222
             clear HB
             have HO_7:=n0_
             have HO_10:=n1_
             have HO_52:=n2_
             have BK222:=n3_
             have HB:=n4_
             clear n0_ n1_ n2_ n3_ n4_
             refine start_ (n:=17) (S:=fun w' => True) (ds:=[]) #[false,false,false,false,false,false,false,false,false,false,false,false,false,false,false,false,false] (by kernel_rfl) rfl rfl trivial (fun hHeld => ?_);refine with_tabW impl_RunTrim.tab14 impl_RunTrim.bits14 (fun HT_ HW_ => ?_)
             generalize w54.drew = w55 at HO_7 HO_10 HO_52 BK222 HB hHeld ⊢
             refine pure_ (i:=0) (N:=some 59) (v:=?_) (a':=?_) #[true,false,false,false,false,false,false,false,false,false,false,false,false,false,false,false,false] rfl rfl (any_of HT_.out (by kernel_rfl)) (fun _ _ _ h => h) (Or.inl ⟨by rfl,?_⟩) ?_ ?_
             rotate_left
             ·intro w'
              go_simp
              with_reducible rfl
             rotate_left
             ·simp only [Act.put,List.setIfInBounds_toArray,List.set_cons_zero,List.set_cons_succ,i64_w,i32_w]
              rfl
             refine pure_ (i:=1) (N:=some 60) (v:=?_) (a':=?_) #[true,true,false,false,false,false,false,false,false,false,false,false,false,false,false,false,false] rfl rfl (any_of HT_.out (by kernel_rfl)) (fun _ _ _ h => h) (Or.inl ⟨by rfl,?_⟩) ?_ ?_
             rotate_left
             ·intro w'
              go_simp
              with_reducible rfl
             rotate_left
             ·simp only [Act.put,List.setIfInBounds_toArray,List.set_cons_zero,List.set_cons_succ,i64_w,i32_w]
              rfl
             refine pure_ (i:=2) (N:=some 61) (v:=?_) (a':=?_) #[true,true,true,false,false,false,false,false,false,false,false,false,false,false,false,false,false] rfl rfl (any_of HT_.out (by kernel_rfl)) (fun _ _ _ h => h) (Or.inl ⟨by rfl,?_⟩) ?_ ?_
             rotate_left
             ·intro w'
              go_simp
              with_reducible rfl
             rotate_left
             ·simp only [Act.put,List.setIfInBounds_toArray,List.set_cons_zero,List.set_cons_succ,i64_w,i32_w]
              rfl
             refine pure_ (i:=3) (N:=some 62) (v:=?_) (a':=?_) #[true,true,true,true,false,false,false,false,false,false,false,false,false,false,false,false,false] rfl rfl (any_of HT_.out (by kernel_rfl)) (fun _ _ _ h => h) (Or.inl ⟨by rfl,?_⟩) ?_ ?_
             rotate_left
             ·intro w'
              go_simp
              with_reducible rfl
             rotate_left
             ·simp only [Act.put,List.setIfInBounds_toArray,List.set_cons_zero,List.set_cons_succ,i64_w,i32_w]
              rfl
             refine pure_ (i:=4) (N:=some 63) (v:=?_) (a':=?_) #[true,true,true,true,true,false,false,false,false,false,false,false,false,false,false,false,false] rfl rfl (any_of HT_.out (by kernel_rfl)) (fun _ _ _ h => h) (Or.inl ⟨by rfl,?_⟩) ?_ ?_
             rotate_left
             ·intro w'
              go_simp
              with_reducible rfl
             rotate_left
             ·simp only [Act.put,List.setIfInBounds_toArray,List.set_cons_zero,List.set_cons_succ,i64_w,i32_w]
              rfl
             refine pure_ (i:=5) (N:=some 64) (v:=?_) (a':=?_) #[true,true,true,true,true,true,false,false,false,false,false,false,false,false,false,false,false] rfl rfl (any_of HT_.out (by kernel_rfl)) (fun _ _ _ h => h) (Or.inl ⟨by rfl,?_⟩) ?_ ?_
             rotate_left
             ·intro w'
              go_simp
              with_reducible rfl
             rotate_left
             ·simp only [Act.put,List.setIfInBounds_toArray,List.set_cons_zero,List.set_cons_succ,i64_w,i32_w]
              rfl
             refine pure_ (i:=6) (N:=some 65) (v:=undef) (a':=?_) #[true,true,true,true,true,true,true,false,false,false,false,false,false,false,false,false,false] rfl rfl (any_of HT_.out (by kernel_rfl)) (fun _ _ _ h => h) (Or.inr ⟨by rfl,rfl⟩) ?_ ?_
             rotate_left
             ·simp only [Act.put,List.setIfInBounds_toArray,List.set_cons_zero,List.set_cons_succ,i64_w,i32_w]
              rfl
             refine pure_ (i:=7) (N:=some 66) (v:=undef) (a':=?_) #[true,true,true,true,true,true,true,true,false,false,false,false,false,false,false,false,false] rfl rfl (any_of HT_.out (by kernel_rfl)) (fun _ _ _ h => h) (Or.inr ⟨by rfl,rfl⟩) ?_ ?_
             rotate_left
             ·simp only [Act.put,List.setIfInBounds_toArray,List.set_cons_zero,List.set_cons_succ,i64_w,i32_w]
              rfl
             refine pure_ (i:=8) (N:=some 67) (v:=undef) (a':=?_) #[true,true,true,true,true,true,true,true,true,false,false,false,false,false,false,false,false] rfl rfl (any_of HT_.out (by kernel_rfl)) (fun _ _ _ h => h) (Or.inr ⟨by rfl,rfl⟩) ?_ ?_
             rotate_left
             ·simp only [Act.put,List.setIfInBounds_toArray,List.set_cons_zero,List.set_cons_succ,i64_w,i32_w]
              rfl
             refine pure_ (i:=9) (N:=some 68) (v:=undef) (a':=?_) #[true,true,true,true,true,true,true,true,true,true,false,false,false,false,false,false,false] rfl rfl (any_of HT_.out (by kernel_rfl)) (fun _ _ _ h => h) (Or.inr ⟨by rfl,rfl⟩) ?_ ?_
             rotate_left
             ·simp only [Act.put,List.setIfInBounds_toArray,List.set_cons_zero,List.set_cons_succ,i64_w,i32_w]
              rfl
             refine pure_ (i:=10) (N:=some 69) (v:=undef) (a':=?_) #[true,true,true,true,true,true,true,true,true,true,true,false,false,false,false,false,false] rfl rfl (any_of HT_.out (by kernel_rfl)) (fun _ _ _ h => h) (Or.inr ⟨by rfl,rfl⟩) ?_ ?_
             rotate_left
             ·simp only [Act.put,List.setIfInBounds_toArray,List.set_cons_zero,List.set_cons_succ,i64_w,i32_w]
              rfl
             refine pure_ (i:=11) (N:=some 70) (v:=undef) (a':=?_) #[true,true,true,true,true,true,true,true,true,true,true,true,false,false,false,false,false] rfl rfl (any_of HT_.out (by kernel_rfl)) (fun _ _ _ h => h) (Or.inr ⟨by rfl,rfl⟩) ?_ ?_
             rotate_left
             ·simp only [Act.put,List.setIfInBounds_toArray,List.set_cons_zero,List.set_cons_succ,i64_w,i32_w]
              rfl
             refine pure_ (i:=12) (N:=some 71) (v:=undef) (a':=?_) #[true,true,true,true,true,true,true,true,true,true,true,true,true,false,false,false,false] rfl rfl (any_of HT_.out (by kernel_rfl)) (fun _ _ _ h => h) (Or.inr ⟨by rfl,rfl⟩) ?_ ?_
             rotate_left
             ·simp only [Act.put,List.setIfInBounds_toArray,List.set_cons_zero,List.set_cons_succ,i64_w,i32_w]
              rfl
             refine pure_ (i:=13) (N:=some 72) (v:=undef) (a':=?_) #[true,true,true,true,true,true,true,true,true,true,true,true,true,true,false,false,false] rfl rfl (any_of HT_.out (by kernel_rfl)) (fun _ _ _ h => h) (Or.inr ⟨by rfl,rfl⟩) ?_ ?_
             rotate_left
             ·simp only [Act.put,List.setIfInBounds_toArray,List.set_cons_zero,List.set_cons_succ,i64_w,i32_w]
              rfl
             refine pure_ (i:=14) (N:=some 73) (v:=undef) (a':=?_) #[true,true,true,true,true,true,true,true,true,true,true,true,true,true,true,false,false] rfl rfl (any_of HT_.out (by kernel_rfl)) (fun _ _ _ h => h) (Or.inr ⟨by rfl,rfl⟩) ?_ ?_
             rotate_left
             ·simp only [Act.put,List.setIfInBounds_toArray,List.set_cons_zero,List.set_cons_succ,i64_w,i32_w]
              rfl
             refine pure_ (i:=15) (N:=some 74) (v:=?_) (a':=?_) #[true,true,true,true,true,true,true,true,true,true,true,true,true,true,true,true,false] rfl rfl (any_of HT_.out (by kernel_rfl)) (fun _ _ _ h => h) (Or.inl ⟨by rfl,?_⟩) ?_ ?_
             rotate_left
             ·intro w'
              go_simp
              with_reducible rfl
             rotate_left
             ·simp only [Act.put,List.setIfInBounds_toArray,List.set_cons_zero,List.set_cons_succ,i64_w,i32_w]
              rfl
             refine pure_ (i:=16) (N:=some 13) (v:=?_) (a':=?_) #[true,true,true,true,true,true,true,true,true,true,true,true,true,true,true,true,true] rfl rfl (any_of HT_.out (by kernel_rfl)) (fun _ _ _ h => h) (Or.inl ⟨by rfl,?_⟩) ?_ ?_
             rotate_left
             ·intro w'
              go_simp
              with_reducible rfl
             rotate_left
             ·simp only [Act.put,List.setIfInBounds_toArray,List.set_cons_zero,List.set_cons_succ,i64_w,i32_w]
              rfl
             refine done_ (done_of HT_.out (by kernel_rfl)) ?_
             have hcz56_0 : w55.cell? ⟨gb222,0,none⟩ = some (.string ((rd_T33 x7_1 x54_2).f0)):=(blk_cell BK222.out 0).trans rfl
             have hcz56_1 : w55.cell? ⟨gb222,1,none⟩ = some (.int .i64 ((rd_T33 x7_1 x54_2).f1)):=(blk_cell BK222.out 1).trans rfl
             have hcz56_2 : w55.cell? ⟨gb222,2,none⟩ = some (.bool true):=(blk_cell BK222.out 2).trans rfl
             have hcz56_3 : w55.cell? ⟨gb222,3,none⟩ = some (.int .i64 ((rd_T33 x7_1 x54_2).f3)):=(blk_cell BK222.out 3).trans rfl
             have hfz56_0:=blk_frozen BK222.out 0
             have hfz56_1:=blk_frozen BK222.out 1
             have hfz56_2:=blk_frozen BK222.out 2
             have hfz56_3:=blk_frozen BK222.out 3
             try go_wp2
             go_roundg k2
             case measure => have:=HK1.out;have:=HK2.out;omega
             case rel => exact ⟨(x10_2),(wrap64 (x54_2 + 1)),(by first | rfl | (simp;done) | (simp [*];done)),H',⟨by have:=HK1.out;have:=HK2.out;omega⟩,⟨by (with_reducible repeat (first | apply Kd.R_alloc | apply Kd.R_drewN | apply Kd.R_drew));exact Kd.R_mono HO_7.out (fun _ hk => hk.1)⟩,⟨by (with_reducible repeat (first | apply Kd.R_alloc | apply Kd.R_drewN | apply Kd.R_drew));exact Kd.R_mono HO_10.out (fun _ hk => ⟨hk.1,hk.2.1⟩)⟩,⟨by (with_reducible repeat (first | apply Kd.R_alloc | apply Kd.R_drewN | apply Kd.R_drew));exact Kd.R_mono HO_52.out (fun _ hk => hk.1)⟩,⟨by repeat (first | (with_reducible first | exact HB.out | apply below_alloc | apply pw_below_drewN | apply below_drew1 | refine below_set ?_ GE222.out) | exact HB.out)⟩⟩
            ·replace c51:=Bool.eq_false_iff.mpr c51
             subst c51
             have H1 : (if x10_2.length < 3518437208883 then (impl_RunTrim.l1 k2 true x7_1 (x10_2 ++ [(⟨(rd_T33 x7_1 x54_2).f0,(rd_T33 x7_1 x54_2).f1,false,(rd_T33 x7_1 x54_2).f3⟩ : S33)]) x7_1 (x7_1.length : Int) (wrap64 (x54_2 + 1))) else (none)) = some r:=by rw [if_neg (show ¬ (false = true) by decide)] at H;exact H
             clear H
             have H:=H1
             clear H1
             by_cases c57 : x10_2.length < 3518437208883
             ·rw [if_pos c57] at H
              have LMc57:=Aside0.mk c57
              clear c57
              obtain ⟨y223,hy223⟩ : ∃ y_ : List (S33),y_ = (x10_2 ++ [(⟨(rd_T33 x7_1 x54_2).f0,(rd_T33 x7_1 x54_2).f1,false,(rd_T33 x7_1 x54_2).f3⟩ : S33)]):=⟨_,rfl⟩
              replace H : (impl_RunTrim.l1 k2 true x7_1 y223 x7_1 (x7_1.length : Int) (wrap64 (x54_2 + 1))) = some r:=by first | (rw [hy223];with_reducible exact H) | (have H2_:=(Option.bind_some _ _).symm.trans H;rw [hy223];with_reducible exact H2_) | (have H2_:=(Option.bind_some _ _).symm.trans H;with_reducible exact H2_) | with_reducible exact H | (rw [hy223];exact H) | exact H
              have Ny223:=Aside0.mk hy223
              clear hy223
              have H':=Aside0.mk H
              clear H
              have p221 : 0 ≤ (x54_2 : Int):=of_decide_eq_true (by first | (with_reducible assumption) | assumption)
              have q221 : x54_2 < (x7_1.length : Int):=of_decide_eq_true (by first | (with_reducible assumption) | assumption)
              obtain ⟨ad221,e221,hx221_0,hx221_1,hx221_2,hx221_3⟩:=at_T33 (Kd.R_reads' HO_52.out).2.2 x54_2 p221 q221
              (try rw [← Nbq50.out] at hx221_2)
              cases e221
              replace p221:=eq_true p221
              replace q221:=eq_true q221
              try go_wp2_with (first | ((with_reducible refine gate_dst (N:=12) rfl ?_);refine box_event ?hg (N:=12) ?hd (cs:=#[.string (⟨#[]⟩ : ByteArray),.int .i64 0,.bool false,.int .i64 0]) (t:=33) ?hr ?_;(case hd => rfl);(case hg => rfl);(case hr => first | (go_simp;done) | (go_simp;rfl));intro gb222 hg w58 hbox hb;have n0_:=Aside0.mk (Kd.R_below (Kd.R_elderB (by (with_reducible repeat (first | apply Kd.R_alloc | apply Kd.R_drewN | apply Kd.R_drew));exact HO_7.out) gb222 (Nat.le_of_eq hg.symm)) hb);have n1_:=Aside0.mk (Kd.R_below (Kd.R_elderB (by (with_reducible repeat (first | apply Kd.R_alloc | apply Kd.R_drewN | apply Kd.R_drew));exact HO_10.out) gb222 (Nat.le_of_eq hg.symm)) hb);have n2_:=Aside0.mk (Kd.R_below (Kd.R_elderB (by (with_reducible repeat (first | apply Kd.R_alloc | apply Kd.R_drewN | apply Kd.R_drew));exact HO_52.out) gb222 (Nat.le_of_eq hg.symm)) hb);have n3_:=Aside0.mk (below_step (by repeat (first | (with_reducible first | exact HB.out | apply below_alloc | apply pw_below_drewN | apply below_drew1) | exact HB.out)) hb);have n4_:=Aside0.mk (hbox);have n5_:=Aside0.mk ((by rw [hg];exact (below_size (by repeat (first | (with_reducible first | exact HB.out | apply below_alloc | apply pw_below_drewN | apply below_drew1) | exact HB.out))) : w.heap.size ≤ gb222));have n6_:=Aside0.mk ((by rw [hg];exact (below_size (by repeat (first | (with_reducible first | exact HB.out | apply below_alloc | apply pw_below_drewN | apply below_drew1) | exact HB.out))) : w.heap.size ≤ gb222));clear HO_7;clear HO_10;clear HO_52;clear HB;have HO_7:=n0_;have HO_10:=n1_;have HO_52:=n2_;have HB:=n3_;have BK222:=n4_;have GW222:=n5_;have GE222:=n6_;clear n0_ n1_ n2_ n3_ n4_ n5_ n6_;clear hb hbox hg;have hcz59_0 : w58.cell? ⟨gb222,0,none⟩ = some (.string (⟨#[]⟩ : ByteArray)):=(blk_cell BK222.out 0).trans rfl;have hcz59_1 : w58.cell? ⟨gb222,1,none⟩ = some (.int .i64 0):=(blk_cell BK222.out 1).trans rfl;have hcz59_2 : w58.cell? ⟨gb222,2,none⟩ = some (.bool false):=(blk_cell BK222.out 2).trans rfl;have hcz59_3 : w58.cell? ⟨gb222,3,none⟩ = some (.int .i64 0):=(blk_cell BK222.out 3).trans rfl;have hfz59_0:=blk_frozen BK222.out 0;have hfz59_1:=blk_frozen BK222.out 1;have hfz59_2:=blk_frozen BK222.out 2;have hfz59_3:=blk_frozen BK222.out 3))
              have n0_ : Aside0 (Kd.R k33 33 ((((w58.setCell ⟨gb222,0,none⟩ (.string ((rd_T33 x7_1 x54_2).f0))).setCell ⟨gb222,1,none⟩ (.int .i64 ((rd_T33 x7_1 x54_2).f1))).setCell ⟨gb222,2,none⟩ (.bool false)).setCell ⟨gb222,3,none⟩ (.int .i64 ((rd_T33 x7_1 x54_2).f3))) w.heap.size (fun k_ => some k_ ≠ (u10 : Value).ownBlock ∧ k_ ≠ gb222) (.slice (some ad221) x7_1.length co44) x7_1):=⟨by (with_reducible repeat (first | apply Kd.R_alloc | apply Kd.R_drewN | apply Kd.R_drew));exact Kd.R_mono (Kd.R_far (p:=⟨gb222,3,none⟩) (Kd.R_far (p:=⟨gb222,2,none⟩) (Kd.R_far (p:=⟨gb222,1,none⟩) (Kd.R_far (p:=⟨gb222,0,none⟩) (Kd.R_mono HO_7.out (fun k_ hk => (⟨hk,hk.2⟩ : _ ∧ k_ ≠ gb222))) (fun _ hk => hk.2) (.string ((rd_T33 x7_1 x54_2).f0))) (fun _ hk => hk.2) (.int .i64 ((rd_T33 x7_1 x54_2).f1))) (fun _ hk => hk.2) (.bool false)) (fun _ hk => hk.2) (.int .i64 ((rd_T33 x7_1 x54_2).f3))) (fun _ hk => ⟨hk.1.1,hk.1.2⟩)⟩
              have n1_ : Aside0 (Kd.R k33 33 ((((w58.setCell ⟨gb222,0,none⟩ (.string ((rd_T33 x7_1 x54_2).f0))).setCell ⟨gb222,1,none⟩ (.int .i64 ((rd_T33 x7_1 x54_2).f1))).setCell ⟨gb222,2,none⟩ (.bool false)).setCell ⟨gb222,3,none⟩ (.int .i64 ((rd_T33 x7_1 x54_2).f3))) w.heap.size (fun k_ => some k_ ≠ (.slice (some ad221) x7_1.length co44 : Value).ownBlock ∧ some k_ ≠ (.slice (some ad221) x7_1.length co44 : Value).ownBlock ∧ k_ ≠ gb222) u10 x10_2):=⟨by (with_reducible repeat (first | apply Kd.R_alloc | apply Kd.R_drewN | apply Kd.R_drew));exact Kd.R_mono (Kd.R_far (p:=⟨gb222,3,none⟩) (Kd.R_far (p:=⟨gb222,2,none⟩) (Kd.R_far (p:=⟨gb222,1,none⟩) (Kd.R_far (p:=⟨gb222,0,none⟩) (Kd.R_mono HO_10.out (fun k_ hk => (⟨hk,hk.2⟩ : _ ∧ k_ ≠ gb222))) (fun _ hk => hk.2) (.string ((rd_T33 x7_1 x54_2).f0))) (fun _ hk => hk.2) (.int .i64 ((rd_T33 x7_1 x54_2).f1))) (fun _ hk => hk.2) (.bool false)) (fun _ hk => hk.2) (.int .i64 ((rd_T33 x7_1 x54_2).f3))) (fun _ hk => ⟨hk.1.1.1,⟨hk.1.1.2,hk.1.2⟩⟩)⟩
              have n2_ : Aside0 (Kd.R k33 33 ((((w58.setCell ⟨gb222,0,none⟩ (.string ((rd_T33 x7_1 x54_2).f0))).setCell ⟨gb222,1,none⟩ (.int .i64 ((rd_T33 x7_1 x54_2).f1))).setCell ⟨gb222,2,none⟩ (.bool false)).setCell ⟨gb222,3,none⟩ (.int .i64 ((rd_T33 x7_1 x54_2).f3))) w.heap.size (fun k_ => some k_ ≠ (u10 : Value).ownBlock ∧ k_ ≠ gb222) (.slice (some ad221) x7_1.length co44) x7_1):=⟨by (with_reducible repeat (first | apply Kd.R_alloc | apply Kd.R_drewN | apply Kd.R_drew));exact Kd.R_mono (Kd.R_far (p:=⟨gb222,3,none⟩) (Kd.R_far (p:=⟨gb222,2,none⟩) (Kd.R_far (p:=⟨gb222,1,none⟩) (Kd.R_far (p:=⟨gb222,0,none⟩) (Kd.R_mono HO_52.out (fun k_ hk => (⟨hk,hk.2⟩ : _ ∧ k_ ≠ gb222))) (fun _ hk => hk.2) (.string ((rd_T33 x7_1 x54_2).f0))) (fun _ hk => hk.2) (.int .i64 ((rd_T33 x7_1 x54_2).f1))) (fun _ hk => hk.2) (.bool false)) (fun _ hk => hk.2) (.int .i64 ((rd_T33 x7_1 x54_2).f3))) (fun _ hk => ⟨hk.1.1,hk.1.2⟩)⟩
              have n3_ : Aside0 (((((w58.setCell ⟨gb222,0,none⟩ (.string ((rd_T33 x7_1 x54_2).f0))).setCell ⟨gb222,1,none⟩ (.int .i64 ((rd_T33 x7_1 x54_2).f1))).setCell ⟨gb222,2,none⟩ (.bool false)).setCell ⟨gb222,3,none⟩ (.int .i64 ((rd_T33 x7_1 x54_2).f3))).heap[gb222]? = some (.cells #[.string ((rd_T33 x7_1 x54_2).f0),.int .i64 ((rd_T33 x7_1 x54_2).f1),.bool false,.int .i64 ((rd_T33 x7_1 x54_2).f3)] 33 (0,0))):=⟨by (with_reducible repeat (first | refine blk_drewN ?_ _ | refine blk_drew ?_ | refine blk_alloc ?_ _));refine blk_put (cs:=#[.string ((rd_T33 x7_1 x54_2).f0),.int .i64 ((rd_T33 x7_1 x54_2).f1),.bool false,.int .i64 0]) ?_ 3 _ rfl;(with_reducible repeat (first | refine blk_drewN ?_ _ | refine blk_drew ?_ | refine blk_alloc ?_ _));refine blk_put (cs:=#[.string ((rd_T33 x7_1 x54_2).f0),.int .i64 ((rd_T33 x7_1 x54_2).f1),.bool false,.int .i64 0]) ?_ 2 _ rfl;(with_reducible repeat (first | refine blk_drewN ?_ _ | refine blk_drew ?_ | refine blk_alloc ?_ _));refine blk_put (cs:=#[.string ((rd_T33 x7_1 x54_2).f0),.int .i64 0,.bool false,.int .i64 0]) ?_ 1 _ rfl;(with_reducible repeat (first | refine blk_drewN ?_ _ | refine blk_drew ?_ | refine blk_alloc ?_ _));refine blk_put (cs:=#[.string (⟨#[]⟩ : ByteArray),.int .i64 0,.bool false,.int .i64 0]) ?_ 0 _ rfl;(with_reducible repeat (first | refine blk_drewN ?_ _ | refine blk_drew ?_ | refine blk_alloc ?_ _));exact BK222.out⟩
              have n4_ : Aside0 (Below w.heap.size w ((((w58.setCell ⟨gb222,0,none⟩ (.string ((rd_T33 x7_1 x54_2).f0))).setCell ⟨gb222,1,none⟩ (.int .i64 ((rd_T33 x7_1 x54_2).f1))).setCell ⟨gb222,2,none⟩ (.bool false)).setCell ⟨gb222,3,none⟩ (.int .i64 ((rd_T33 x7_1 x54_2).f3)))):=⟨by repeat (first | (with_reducible first | exact HB.out | apply below_alloc | apply pw_below_drewN | apply below_drew1 | refine below_set ?_ GE222.out) | exact HB.out)⟩
              (try clear HO_7)
              (try clear HO_10)
              (try clear HO_52)
              (try clear BK222)
              (try clear HB)
              generalize ((((w58.setCell ⟨gb222,0,none⟩ (.string ((rd_T33 x7_1 x54_2).f0))).setCell ⟨gb222,1,none⟩ (.int .i64 ((rd_T33 x7_1 x54_2).f1))).setCell ⟨gb222,2,none⟩ (.bool false)).setCell ⟨gb222,3,none⟩ (.int .i64 ((rd_T33 x7_1 x54_2).f3))) = w60 at n0_ n1_ n2_ n3_ n4_ ⊢
              have HO_7:=n0_
              have HO_10:=n1_
              have HO_52:=n2_
              have BK222:=n3_
              have HB:=n4_
              clear n0_ n1_ n2_ n3_ n4_
              have n0_:=Aside0.mk (Kd.R_drew HO_7.out)
              have n1_:=Aside0.mk (Kd.R_drew HO_10.out)
              have n2_:=Aside0.mk (Kd.R_drew HO_52.out)
              have n3_:=Aside0.mk (blk_drew BK222.out)
              have n4_:=Aside0.mk (below_drew1 HB.out)
              clear HO_7
              clear HO_10
              clear HO_52
              clear BK222
              clear HB
              have HO_7:=n0_
              have HO_10:=n1_
              have HO_52:=n2_
              have BK222:=n3_
              have HB:=n4_
              clear n0_ n1_ n2_ n3_ n4_
              refine start_ (n:=17) (S:=fun w' => True) (ds:=[]) #[false,false,false,false,false,false,false,false,false,false,false,false,false,false,false,false,false] (by kernel_rfl) rfl rfl trivial (fun hHeld => ?_);refine with_tabW impl_RunTrim.tab14 impl_RunTrim.bits14 (fun HT_ HW_ => ?_)
              generalize w60.drew = w61 at HO_7 HO_10 HO_52 BK222 HB hHeld ⊢
              refine pure_ (i:=0) (N:=some 59) (v:=?_) (a':=?_) #[true,false,false,false,false,false,false,false,false,false,false,false,false,false,false,false,false] rfl rfl (any_of HT_.out (by kernel_rfl)) (fun _ _ _ h => h) (Or.inl ⟨by rfl,?_⟩) ?_ ?_
              rotate_left
              ·intro w'
               go_simp
               with_reducible rfl
              rotate_left
              ·simp only [Act.put,List.setIfInBounds_toArray,List.set_cons_zero,List.set_cons_succ,i64_w,i32_w]
               rfl
              refine pure_ (i:=1) (N:=some 60) (v:=?_) (a':=?_) #[true,true,false,false,false,false,false,false,false,false,false,false,false,false,false,false,false] rfl rfl (any_of HT_.out (by kernel_rfl)) (fun _ _ _ h => h) (Or.inl ⟨by rfl,?_⟩) ?_ ?_
              rotate_left
              ·intro w'
               go_simp
               with_reducible rfl
              rotate_left
              ·simp only [Act.put,List.setIfInBounds_toArray,List.set_cons_zero,List.set_cons_succ,i64_w,i32_w]
               rfl
              refine pure_ (i:=2) (N:=some 61) (v:=?_) (a':=?_) #[true,true,true,false,false,false,false,false,false,false,false,false,false,false,false,false,false] rfl rfl (any_of HT_.out (by kernel_rfl)) (fun _ _ _ h => h) (Or.inl ⟨by rfl,?_⟩) ?_ ?_
              rotate_left
              ·intro w'
               go_simp
               with_reducible rfl
              rotate_left
              ·simp only [Act.put,List.setIfInBounds_toArray,List.set_cons_zero,List.set_cons_succ,i64_w,i32_w]
               rfl
              refine pure_ (i:=3) (N:=some 62) (v:=?_) (a':=?_) #[true,true,true,true,false,false,false,false,false,false,false,false,false,false,false,false,false] rfl rfl (any_of HT_.out (by kernel_rfl)) (fun _ _ _ h => h) (Or.inl ⟨by rfl,?_⟩) ?_ ?_
              rotate_left
              ·intro w'
               go_simp
               with_reducible rfl
              rotate_left
              ·simp only [Act.put,List.setIfInBounds_toArray,List.set_cons_zero,List.set_cons_succ,i64_w,i32_w]
               rfl
              refine pure_ (i:=4) (N:=some 63) (v:=?_) (a':=?_) #[true,true,true,true,true,false,false,false,false,false,false,false,false,false,false,false,false] rfl rfl (any_of HT_.out (by kernel_rfl)) (fun _ _ _ h => h) (Or.inl ⟨by rfl,?_⟩) ?_ ?_
              rotate_left
              ·intro w'
               go_simp
               with_reducible rfl
              rotate_left
              ·simp only [Act.put,List.setIfInBounds_toArray,List.set_cons_zero,List.set_cons_succ,i64_w,i32_w]
               rfl
              refine pure_ (i:=5) (N:=some 64) (v:=?_) (a':=?_) #[true,true,true,true,true,true,false,false,false,false,false,false,false,false,false,false,false] rfl rfl (any_of HT_.out (by kernel_rfl)) (fun _ _ _ h => h) (Or.inl ⟨by rfl,?_⟩) ?_ ?_
              rotate_left
              ·intro w'
               go_simp
               with_reducible rfl
              rotate_left
              ·simp only [Act.put,List.setIfInBounds_toArray,List.set_cons_zero,List.set_cons_succ,i64_w,i32_w]
               rfl
              refine pure_ (i:=6) (N:=some 65) (v:=undef) (a':=?_) #[true,true,true,true,true,true,true,false,false,false,false,false,false,false,false,false,false] rfl rfl (any_of HT_.out (by kernel_rfl)) (fun _ _ _ h => h) (Or.inr ⟨by rfl,rfl⟩) ?_ ?_
              rotate_left
              ·simp only [Act.put,List.setIfInBounds_toArray,List.set_cons_zero,List.set_cons_succ,i64_w,i32_w]
               rfl
              refine pure_ (i:=7) (N:=some 66) (v:=undef) (a':=?_) #[true,true,true,true,true,true,true,true,false,false,false,false,false,false,false,false,false] rfl rfl (any_of HT_.out (by kernel_rfl)) (fun _ _ _ h => h) (Or.inr ⟨by rfl,rfl⟩) ?_ ?_
              rotate_left
              ·simp only [Act.put,List.setIfInBounds_toArray,List.set_cons_zero,List.set_cons_succ,i64_w,i32_w]
               rfl
              refine pure_ (i:=8) (N:=some 67) (v:=undef) (a':=?_) #[true,true,true,true,true,true,true,true,true,false,false,false,false,false,false,false,false] rfl rfl (any_of HT_.out (by kernel_rfl)) (fun _ _ _ h => h) (Or.inr ⟨by rfl,rfl⟩) ?_ ?_
              rotate_left
              ·simp only [Act.put,List.setIfInBounds_toArray,List.set_cons_zero,List.set_cons_succ,i64_w,i32_w]
               rfl
              refine pure_ (i:=9) (N:=some 68) (v:=undef) (a':=?_) #[true,true,true,true,true,true,true,true,true,true,false,false,false,false,false,false,false] rfl rfl (any_of HT_.out (by kernel_rfl)) (fun _ _ _ h => h) (Or.inr ⟨by rfl,rfl⟩) ?_ ?_
              rotate_left
              ·simp only [Act.put,List.setIfInBounds_toArray,List.set_cons_zero,List.set_cons_succ,i64_w,i32_w]
               rfl
              refine pure_ (i:=10) (N:=some 69) (v:=undef) (a':=?_) #[true,true,true,true,true,true,true,true,true,true,true,false,false,false,false,false,false] rfl rfl (any_of HT_.out (by kernel_rfl)) (fun _ _ _ h => h) (Or.inr ⟨by rfl,rfl⟩) ?_ ?_
              rotate_left
              ·simp only [Act.put,List.setIfInBounds_toArray,List.set_cons_zero,List.set_cons_succ,i64_w,i32_w]
               rfl
              refine pure_ (i:=11) (N:=some 70) (v:=undef) (a':=?_) #[true,true,true,true,true,true,true,true,true,true,true,true,false,false,false,false,false] rfl rfl (any_of HT_.out (by kernel_rfl)) (fun _ _ _ h => h) (Or.inr ⟨by rfl,rfl⟩) ?_ ?_
              rotate_left
              ·simp only [Act.put,List.setIfInBounds_toArray,List.set_cons_zero,List.set_cons_succ,i64_w,i32_w]
               rfl
              refine pure_ (i:=12) (N:=some 71) (v:=undef) (a':=?_) #[true,true,true,true,true,true,true,true,true,true,true,true,true,false,false,false,false] rfl rfl (any_of HT_.out (by kernel_rfl)) (fun _ _ _ h => h) (Or.inr ⟨by rfl,rfl⟩) ?_ ?_
              rotate_left
              ·simp only [Act.put,List.setIfInBounds_toArray,List.set_cons_zero,List.set_cons_succ,i64_w,i32_w]
               rfl
              refine pure_ (i:=13) (N:=some 72) (v:=undef) (a':=?_) #[true,true,true,true,true,true,true,true,true,true,true,true,true,true,false,false,false] rfl rfl (any_of HT_.out (by kernel_rfl)) (fun _ _ _ h => h) (Or.inr ⟨by rfl,rfl⟩) ?_ ?_
              rotate_left
              ·simp only [Act.put,List.setIfInBounds_toArray,List.set_cons_zero,List.set_cons_succ,i64_w,i32_w]
               rfl
              refine pure_ (i:=14) (N:=some 73) (v:=undef) (a':=?_) #[true,true,true,true,true,true,true,true,true,true,true,true,true,true,true,false,false] rfl rfl (any_of HT_.out (by kernel_rfl)) (fun _ _ _ h => h) (Or.inr ⟨by rfl,rfl⟩) ?_ ?_
              rotate_left
              ·simp only [Act.put,List.setIfInBounds_toArray,List.set_cons_zero,List.set_cons_succ,i64_w,i32_w]
               rfl
              refine pure_ (i:=15) (N:=some 74) (v:=?_) (a':=?_) #[true,true,true,true,true,true,true,true,true,true,true,true,true,true,true,true,false] rfl rfl (any_of HT_.out (by kernel_rfl)) (fun _ _ _ h => h) (Or.inl ⟨by rfl,?_⟩) ?_ ?_
              rotate_left
              ·intro w'
               go_simp
               with_reducible rfl
              rotate_left
              ·simp only [Act.put,List.setIfInBounds_toArray,List.set_cons_zero,List.set_cons_succ,i64_w,i32_w]
               rfl
              refine pure_ (i:=16) (N:=some 13) (v:=?_) (a':=?_) #[true,true,true,true,true,true,true,true,true,true,true,true,true,true,true,true,true] rfl rfl (any_of HT_.out (by kernel_rfl)) (fun _ _ _ h => h) (Or.inl ⟨by rfl,?_⟩) ?_ ?_
              rotate_left
              ·intro w'
               go_simp
               with_reducible rfl
              rotate_left
              ·simp only [Act.put,List.setIfInBounds_toArray,List.set_cons_zero,List.set_cons_succ,i64_w,i32_w]
               rfl
              refine done_ (done_of HT_.out (by kernel_rfl)) ?_
              have hcz62_0 : w61.cell? ⟨gb222,0,none⟩ = some (.string ((rd_T33 x7_1 x54_2).f0)):=(blk_cell BK222.out 0).trans rfl
              have hcz62_1 : w61.cell? ⟨gb222,1,none⟩ = some (.int .i64 ((rd_T33 x7_1 x54_2).f1)):=(blk_cell BK222.out 1).trans rfl
              have hcz62_2 : w61.cell? ⟨gb222,2,none⟩ = some (.bool false):=(blk_cell BK222.out 2).trans rfl
              have hcz62_3 : w61.cell? ⟨gb222,3,none⟩ = some (.int .i64 ((rd_T33 x7_1 x54_2).f3)):=(blk_cell BK222.out 3).trans rfl
              have hfz62_0:=blk_frozen BK222.out 0
              have hfz62_1:=blk_frozen BK222.out 1
              have hfz62_2:=blk_frozen BK222.out 2
              have hfz62_3:=blk_frozen BK222.out 3
              try go_wp2_with (first | ((with_reducible refine gate_builtin (b:=.append) (xs:=#[.tmp 86,.tmp 88]) rfl ?_);at_builtin;refine Kd.R_append k33 (w0:=w) w.heap.size rfl (.tmp 86) (.tmp 88) 26 33 (.agg #[(.string ⟨#[]⟩),(.int .i64 0),(.bool false),(.int .i64 0)]) 40 rfl Try.underlying26 info33 rfl (by decide) (by omega) u10 x10_2 (⟨(rd_T33 x7_1 x54_2).f0,(rd_T33 x7_1 x54_2).f1,false,(rd_T33 x7_1 x54_2).f3⟩ : S33) [.string ((rd_T33 x7_1 x54_2).f0),.int .i64 ((rd_T33 x7_1 x54_2).f1),.bool false,.int .i64 ((rd_T33 x7_1 x54_2).f3)] (fun k_ => some k_ ≠ (.slice (some ad221) x7_1.length co44 : Value).ownBlock ∧ some k_ ≠ (.slice (some ad221) x7_1.length co44 : Value).ownBlock ∧ k_ ≠ gb222) (fun _ => False) rfl rfl ?aP (fun _ hk => hk.elim) ?aF ?aO ?aB ?aS ?aL ?_;(case aP => exact k33_mkM _ _ _ (⟨(rd_T33 x7_1 x54_2).f0,(rd_T33 x7_1 x54_2).f1,false,(rd_T33 x7_1 x54_2).f3⟩ : S33));(case aB => exact (by repeat (first | (with_reducible first | exact HB.out | apply below_alloc | apply pw_below_drewN | apply below_drew1 | refine below_set ?_ GE222.out) | exact HB.out)));(case aF => exact (fun k_ hk => ⟨Kd.fresh' (Kd.R_lt (by (with_reducible repeat (first | apply Kd.R_alloc | apply Kd.R_drewN | apply Kd.R_drew));exact HO_7.out)) k_ hk,Kd.fresh' (Kd.R_lt (by (with_reducible repeat (first | apply Kd.R_alloc | apply Kd.R_drewN | apply Kd.R_drew));exact HO_52.out)) k_ hk,Kd.freshB (g:=gb222) (o:=.cells #[.string ((rd_T33 x7_1 x54_2).f0),.int .i64 ((rd_T33 x7_1 x54_2).f1),.bool false,.int .i64 ((rd_T33 x7_1 x54_2).f3)] 33 (0,0)) (by (with_reducible repeat (first | refine blk_drewN ?_ _ | refine blk_drew ?_ | refine blk_alloc ?_ _));exact BK222.out) k_ hk⟩));(case aO => exact (by (with_reducible repeat (first | apply Kd.R_alloc | apply Kd.R_drewN | apply Kd.R_drew));exact HO_10.out));(case aS => exact (below_size (by repeat (first | (with_reducible first | exact HB.out | apply below_alloc | apply pw_below_drewN | apply below_drew1 | refine below_set ?_ GE222.out) | exact HB.out))));(case aL => have:=LMc57.out;omega);intro v224 w63 ho hb hg hat;rw [← Ny223.out] at ho;have n0_:=Aside0.mk (Kd.R_after (ok:=(fun k_ => k_ ≠ gb222)) (by (with_reducible repeat (first | apply Kd.R_alloc | apply Kd.R_drewN | apply Kd.R_drew));exact Kd.R_mono HO_7.out (fun _ hk => ⟨hk.2,hk.1⟩)) hg hat);have n1_:=Aside0.mk (Kd.R_after (ok:=(fun k_ => k_ ≠ gb222)) (by (with_reducible repeat (first | apply Kd.R_alloc | apply Kd.R_drewN | apply Kd.R_drew));exact Kd.R_mono HO_52.out (fun _ hk => ⟨hk.2,hk.1⟩)) hg hat);have n2_:=Aside0.mk (blk_grown (g:=gb222) (o:=.cells #[.string ((rd_T33 x7_1 x54_2).f0),.int .i64 ((rd_T33 x7_1 x54_2).f1),.bool false,.int .i64 ((rd_T33 x7_1 x54_2).f3)] 33 (0,0)) (by (with_reducible repeat (first | refine blk_drewN ?_ _ | refine blk_drew ?_ | refine blk_alloc ?_ _));exact BK222.out) hg (Kd.R_away HO_10.out (fun _ hk => hk.2.2)));have n3_:=Aside0.mk (hb);have n4_:=Aside0.mk (ho);clear HO_7;clear HO_52;clear BK222;clear HB;clear HO_10;have HO_7:=n0_;have HO_52:=n1_;have BK222:=n2_;have HB:=n3_;have HO225:=n4_;clear n0_ n1_ n2_ n3_ n4_;clear ho hb hg hat))
              go_roundg k2
              case measure => have:=HK1.out;have:=HK2.out;omega
              case rel => exact ⟨(y223),(wrap64 (x54_2 + 1)),(by first | rfl | (simp;done) | (simp [*];done)),H',⟨by have:=HK1.out;have:=HK2.out;omega⟩,⟨by (with_reducible repeat (first | apply Kd.R_alloc | apply Kd.R_drewN | apply Kd.R_drew));exact Kd.R_mono HO_7.out (fun _ hk => hk.2)⟩,⟨by (with_reducible repeat (first | apply Kd.R_alloc | apply Kd.R_drewN | apply Kd.R_drew));exact Kd.R_mono HO225.out (fun _ hk => ⟨hk.1,hk.2.1⟩)⟩,⟨by (with_reducible repeat (first | apply Kd.R_alloc | apply Kd.R_drewN | apply Kd.R_drew));exact Kd.R_mono HO_52.out (fun _ hk => hk.2)⟩,⟨by repeat (first | (with_reducible first | exact HB.out | apply below_alloc | apply pw_below_drewN | apply below_drew1 | refine below_set ?_ GE222.out) | exact HB.out)⟩⟩
             ·rw [if_neg c57] at H
              exact absurd H (by simp)
           ·replace c49:=Bool.eq_false_iff.mpr c49
            subst c49
            have H1 : (if x10_2.length < 3518437208883 then (impl_RunTrim.l1 k2 false x7_1 (x10_2 ++ [(⟨(rd_T33 x7_1 x54_2).f0,(rd_T33 x7_1 x54_2).f1,(rd_T33 x7_1 x54_2).f2,(rd_T33 x7_1 x54_2).f3⟩ : S33)]) x7_1 (x7_1.length : Int) (wrap64 (x54_2 + 1))) else (none)) = some r:=by rw [if_neg (show ¬ (false = true) by decide)] at H;exact H
            clear H
            have H:=H1
            clear H1
            by_cases c64 : x10_2.length < 3518437208883
            ·rw [if_pos c64] at H
             have LMc64:=Aside0.mk c64
             clear c64
             obtain ⟨y226,hy226⟩ : ∃ y_ : List (S33),y_ = (x10_2 ++ [(⟨(rd_T33 x7_1 x54_2).f0,(rd_T33 x7_1 x54_2).f1,(rd_T33 x7_1 x54_2).f2,(rd_T33 x7_1 x54_2).f3⟩ : S33)]):=⟨_,rfl⟩
             replace H : (impl_RunTrim.l1 k2 false x7_1 y226 x7_1 (x7_1.length : Int) (wrap64 (x54_2 + 1))) = some r:=by first | (rw [hy226];with_reducible exact H) | (have H2_:=(Option.bind_some _ _).symm.trans H;rw [hy226];with_reducible exact H2_) | (have H2_:=(Option.bind_some _ _).symm.trans H;with_reducible exact H2_) | with_reducible exact H | (rw [hy226];exact H) | exact H
             have Ny226:=Aside0.mk hy226
             clear hy226
             have H':=Aside0.mk H
             clear H
             have p221 : 0 ≤ (x54_2 : Int):=of_decide_eq_true (by first | (with_reducible assumption) | assumption)
             have q221 : x54_2 < (x7_1.length : Int):=of_decide_eq_true (by first | (with_reducible assumption) | assumption)
             obtain ⟨ad221,e221,hx221_0,hx221_1,hx221_2,hx221_3⟩:=at_T33 (Kd.R_reads' HO_52.out).2.2 x54_2 p221 q221
             cases e221
             replace p221:=eq_true p221
             replace q221:=eq_true q221
             try go_wp2_with (first | ((with_reducible refine gate_dst (N:=12) rfl ?_);refine box_event ?hg (N:=12) ?hd (cs:=#[.string (⟨#[]⟩ : ByteArray),.int .i64 0,.bool false,.int .i64 0]) (t:=33) ?hr ?_;(case hd => rfl);(case hg => rfl);(case hr => first | (go_simp;done) | (go_simp;rfl));intro gb222 hg w65 hbox hb;have n0_:=Aside0.mk (Kd.R_below (Kd.R_elderB (by (with_reducible repeat (first | apply Kd.R_alloc | apply Kd.R_drewN | apply Kd.R_drew));exact HO_7.out) gb222 (Nat.le_of_eq hg.symm)) hb);have n1_:=Aside0.mk (Kd.R_below (Kd.R_elderB (by (with_reducible repeat (first | apply Kd.R_alloc | apply Kd.R_drewN | apply Kd.R_drew));exact HO_10.out) gb222 (Nat.le_of_eq hg.symm)) hb);have n2_:=Aside0.mk (Kd.R_below (Kd.R_elderB (by (with_reducible repeat (first | apply Kd.R_alloc | apply Kd.R_drewN | apply Kd.R_drew));exact HO_52.out) gb222 (Nat.le_of_eq hg.symm)) hb);have n3_:=Aside0.mk (below_step (by repeat (first | (with_reducible first | exact HB.out | apply below_alloc | apply pw_below_drewN | apply below_drew1) | exact HB.out)) hb);have n4_:=Aside0.mk (hbox);have n5_:=Aside0.mk ((by rw [hg];exact (below_size (by repeat (first | (with_reducible first | exact HB.out | apply below_alloc | apply pw_below_drewN | apply below_drew1) | exact HB.out))) : w.heap.size ≤ gb222));have n6_:=Aside0.mk ((by rw [hg];exact (below_size (by repeat (first | (with_reducible first | exact HB.out | apply below_alloc | apply pw_below_drewN | apply below_drew1) | exact HB.out))) : w.heap.size ≤ gb222));clear HO_7;clear HO_10;clear HO_52;clear HB;have HO_7:=n0_;have HO_10:=n1_;have HO_52:=n2_;have HB:=n3_;have BK222:=n4_;have GW222:=n5_;have GE222:=n6_;clear n0_ n1_ n2_ n3_ n4_ n5_ n6_;clear hb hbox hg;have hcz66_0 : w65.cell? ⟨gb222,0,none⟩ = some (.string (⟨#[]⟩ : ByteArray)):=(blk_cell BK222.out 0).trans rfl;have hcz66_1 : w65.cell? ⟨gb222,1,none⟩ = some (.int .i64 0):=(blk_cell BK222.out 1).trans rfl;have hcz66_2 : w65.cell? ⟨gb222,2,none⟩ = some (.bool false):=(blk_cell BK222.out 2).trans rfl;have hcz66_3 : w65.cell? ⟨gb222,3,none⟩ = some (.int .i64 0):=(blk_cell BK222.out 3).trans rfl;have hfz66_0:=blk_frozen BK222.out 0;have hfz66_1:=blk_frozen BK222.out 1;have hfz66_2:=blk_frozen BK222.out 2;have hfz66_3:=blk_frozen BK222.out 3))
             have n0_ : Aside0 (Kd.R k33 33 ((((w65.setCell ⟨gb222,0,none⟩ (.string ((rd_T33 x7_1 x54_2).f0))).setCell ⟨gb222,1,none⟩ (.int .i64 ((rd_T33 x7_1 x54_2).f1))).setCell ⟨gb222,2,none⟩ (.bool ((rd_T33 x7_1 x54_2).f2))).setCell ⟨gb222,3,none⟩ (.int .i64 ((rd_T33 x7_1 x54_2).f3))) w.heap.size (fun k_ => some k_ ≠ (u10 : Value).ownBlock ∧ k_ ≠ gb222) (.slice (some ad221) x7_1.length co44) x7_1):=⟨by (with_reducible repeat (first | apply Kd.R_alloc | apply Kd.R_drewN | apply Kd.R_drew));exact Kd.R_mono (Kd.R_far (p:=⟨gb222,3,none⟩) (Kd.R_far (p:=⟨gb222,2,none⟩) (Kd.R_far (p:=⟨gb222,1,none⟩) (Kd.R_far (p:=⟨gb222,0,none⟩) (Kd.R_mono HO_7.out (fun k_ hk => (⟨hk,hk.2⟩ : _ ∧ k_ ≠ gb222))) (fun _ hk => hk.2) (.string ((rd_T33 x7_1 x54_2).f0))) (fun _ hk => hk.2) (.int .i64 ((rd_T33 x7_1 x54_2).f1))) (fun _ hk => hk.2) (.bool ((rd_T33 x7_1 x54_2).f2))) (fun _ hk => hk.2) (.int .i64 ((rd_T33 x7_1 x54_2).f3))) (fun _ hk => ⟨hk.1.1,hk.1.2⟩)⟩
             have n1_ : Aside0 (Kd.R k33 33 ((((w65.setCell ⟨gb222,0,none⟩ (.string ((rd_T33 x7_1 x54_2).f0))).setCell ⟨gb222,1,none⟩ (.int .i64 ((rd_T33 x7_1 x54_2).f1))).setCell ⟨gb222,2,none⟩ (.bool ((rd_T33 x7_1 x54_2).f2))).setCell ⟨gb222,3,none⟩ (.int .i64 ((rd_T33 x7_1 x54_2).f3))) w.heap.size (fun k_ => some k_ ≠ (.slice (some ad221) x7_1.length co44 : Value).ownBlock ∧ some k_ ≠ (.slice (some ad221) x7_1.length co44 : Value).ownBlock ∧ k_ ≠ gb222) u10 x10_2):=⟨by (with_reducible repeat (first | apply Kd.R_alloc | apply Kd.R_drewN | apply Kd.R_drew));exact Kd.R_mono (Kd.R_far (p:=⟨gb222,3,none⟩) (Kd.R_far (p:=⟨gb222,2,none⟩) (Kd.R_far (p:=⟨gb222,1,none⟩) (Kd.R_far (p:=⟨gb222,0,none⟩) (Kd.R_mono HO_10.out (fun k_ hk => (⟨hk,hk.2⟩ : _ ∧ k_ ≠ gb222))) (fun _ hk => hk.2) (.string ((rd_T33 x7_1 x54_2).f0))) (fun _ hk => hk.2) (.int .i64 ((rd_T33 x7_1 x54_2).f1))) (fun _ hk => hk.2) (.bool ((rd_T33 x7_1 x54_2).f2))) (fun _ hk => hk.2) (.int .i64 ((rd_T33 x7_1 x54_2).f3))) (fun _ hk => ⟨hk.1.1.1,⟨hk.1.1.2,hk.1.2⟩⟩)⟩
             have n2_ : Aside0 (Kd.R k33 33 ((((w65.setCell ⟨gb222,0,none⟩ (.string ((rd_T33 x7_1 x54_2).f0))).setCell ⟨gb222,1,none⟩ (.int .i64 ((rd_T33 x7_1 x54_2).f1))).setCell ⟨gb222,2,none⟩ (.bool ((rd_T33 x7_1 x54_2).f2))).setCell ⟨gb222,3,none⟩ (.int .i64 ((rd_T33 x7_1 x54_2).f3))) w.heap.size (fun k_ => some k_ ≠ (u10 : Value).ownBlock ∧ k_ ≠ gb222) (.slice (some ad221) x7_1.length co44) x7_1):=⟨by (with_reducible repeat (first | apply Kd.R_alloc | apply Kd.R_drewN | apply Kd.R_drew));exact Kd.R_mono (Kd.R_far (p:=⟨gb222,3,none⟩) (Kd.R_far (p:=⟨gb222,2,none⟩) (Kd.R_far (p:=⟨gb222,1,none⟩) (Kd.R_far (p:=⟨gb222,0,none⟩) (Kd.R_mono HO_52.out (fun k_ hk => (⟨hk,hk.2⟩ : _ ∧ k_ ≠ gb222))) (fun _ hk => hk.2) (.string ((rd_T33 x7_1 x54_2).f0))) (fun _ hk => hk.2) (.int .i64 ((rd_T33 x7_1 x54_2).f1))) (fun _ hk => hk.2) (.bool ((rd_T33 x7_1 x54_2).f2))) (fun _ hk => hk.2) (.int .i64 ((rd_T33 x7_1 x54_2).f3))) (fun _ hk => ⟨hk.1.1,hk.1.2⟩)⟩
             have n3_ : Aside0 (((((w65.setCell ⟨gb222,0,none⟩ (.string ((rd_T33 x7_1 x54_2).f0))).setCell ⟨gb222,1,none⟩ (.int .i64 ((rd_T33 x7_1 x54_2).f1))).setCell ⟨gb222,2,none⟩ (.bool ((rd_T33 x7_1 x54_2).f2))).setCell ⟨gb222,3,none⟩ (.int .i64 ((rd_T33 x7_1 x54_2).f3))).heap[gb222]? = some (.cells #[.string ((rd_T33 x7_1 x54_2).f0),.int .i64 ((rd_T33 x7_1 x54_2).f1),.bool ((rd_T33 x7_1 x54_2).f2),.int .i64 ((rd_T33 x7_1 x54_2).f3)] 33 (0,0))):=⟨by (with_reducible repeat (first | refine blk_drewN ?_ _ | refine blk_drew ?_ | refine blk_alloc ?_ _));refine blk_put (cs:=#[.string ((rd_T33 x7_1 x54_2).f0),.int .i64 ((rd_T33 x7_1 x54_2).f1),.bool ((rd_T33 x7_1 x54_2).f2),.int .i64 0]) ?_ 3 _ rfl;(with_reducible repeat (first | refine blk_drewN ?_ _ | refine blk_drew ?_ | refine blk_alloc ?_ _));refine blk_put (cs:=#[.string ((rd_T33 x7_1 x54_2).f0),.int .i64 ((rd_T33 x7_1 x54_2).f1),.bool false,.int .i64 0]) ?_ 2 _ rfl;(with_reducible repeat (first | refine blk_drewN ?_ _ | refine blk_drew ?_ | refine blk_alloc ?_ _));refine blk_put (cs:=#[.string ((rd_T33 x7_1 x54_2).f0),.int .i64 0,.bool false,.int .i64 0]) ?_ 1 _ rfl;(with_reducible repeat (first | refine blk_drewN ?_ _ | refine blk_drew ?_ | refine blk_alloc ?_ _));refine blk_put (cs:=#[.string (⟨#[]⟩ : ByteArray),.int .i64 0,.bool false,.int .i64 0]) ?_ 0 _ rfl;(with_reducible repeat (first | refine blk_drewN ?_ _ | refine blk_drew ?_ | refine blk_alloc ?_ _));exact BK222.out⟩
             have n4_ : Aside0 (Below w.heap.size w ((((w65.setCell ⟨gb222,0,none⟩ (.string ((rd_T33 x7_1 x54_2).f0))).setCell ⟨gb222,1,none⟩ (.int .i64 ((rd_T33 x7_1 x54_2).f1))).setCell ⟨gb222,2,none⟩ (.bool ((rd_T33 x7_1 x54_2).f2))).setCell ⟨gb222,3,none⟩ (.int .i64 ((rd_T33 x7_1 x54_2).f3)))):=⟨by repeat (first | (with_reducible first | exact HB.out | apply below_alloc | apply pw_below_drewN | apply below_drew1 | refine below_set ?_ GE222.out) | exact HB.out)⟩
             (try clear HO_7)
             (try clear HO_10)
             (try clear HO_52)
             (try clear BK222)
             (try clear HB)
             generalize ((((w65.setCell ⟨gb222,0,none⟩ (.string ((rd_T33 x7_1 x54_2).f0))).setCell ⟨gb222,1,none⟩ (.int .i64 ((rd_T33 x7_1 x54_2).f1))).setCell ⟨gb222,2,none⟩ (.bool ((rd_T33 x7_1 x54_2).f2))).setCell ⟨gb222,3,none⟩ (.int .i64 ((rd_T33 x7_1 x54_2).f3))) = w67 at n0_ n1_ n2_ n3_ n4_ ⊢
             have HO_7:=n0_
             have HO_10:=n1_
             have HO_52:=n2_
             have BK222:=n3_
             have HB:=n4_
             clear n0_ n1_ n2_ n3_ n4_
             have n0_:=Aside0.mk (Kd.R_drew HO_7.out)
             have n1_:=Aside0.mk (Kd.R_drew HO_10.out)
             have n2_:=Aside0.mk (Kd.R_drew HO_52.out)
             have n3_:=Aside0.mk (blk_drew BK222.out)
             have n4_:=Aside0.mk (below_drew1 HB.out)
             clear HO_7
             clear HO_10
             clear HO_52
             clear BK222
             clear HB
             have HO_7:=n0_
             have HO_10:=n1_
             have HO_52:=n2_
             have BK222:=n3_
             have HB:=n4_
             clear n0_ n1_ n2_ n3_ n4_
             refine start_ (n:=17) (S:=fun w' => True) (ds:=[]) #[false,false,false,false,false,false,false,false,false,false,false,false,false,false,false,false,false] (by kernel_rfl) rfl rfl trivial (fun hHeld => ?_);refine with_tabW impl_RunTrim.tab14 impl_RunTrim.bits14 (fun HT_ HW_ => ?_)
             generalize w67.drew = w68 at HO_7 HO_10 HO_52 BK222 HB hHeld ⊢
             refine pure_ (i:=0) (N:=some 59) (v:=?_) (a':=?_) #[true,false,false,false,false,false,false,false,false,false,false,false,false,false,false,false,false] rfl rfl (any_of HT_.out (by kernel_rfl)) (fun _ _ _ h => h) (Or.inl ⟨by rfl,?_⟩) ?_ ?_
             rotate_left
             ·intro w'
              go_simp
              with_reducible rfl
             rotate_left
             ·simp only [Act.put,List.setIfInBounds_toArray,List.set_cons_zero,List.set_cons_succ,i64_w,i32_w]
              rfl
             refine pure_ (i:=1) (N:=some 60) (v:=?_) (a':=?_) #[true,true,false,false,false,false,false,false,false,false,false,false,false,false,false,false,false] rfl rfl (any_of HT_.out (by kernel_rfl)) (fun _ _ _ h => h) (Or.inl ⟨by rfl,?_⟩) ?_ ?_
             rotate_left
             ·intro w'
              go_simp
              with_reducible rfl
             rotate_left
             ·simp only [Act.put,List.setIfInBounds_toArray,List.set_cons_zero,List.set_cons_succ,i64_w,i32_w]
              rfl
             refine pure_ (i:=2) (N:=some 61) (v:=?_) (a':=?_) #[true,true,true,false,false,false,false,false,false,false,false,false,false,false,false,false,false] rfl rfl (any_of HT_.out (by kernel_rfl)) (fun _ _ _ h => h) (Or.inl ⟨by rfl,?_⟩) ?_ ?_
             rotate_left
             ·intro w'
              go_simp
              with_reducible rfl
             rotate_left
             ·simp only [Act.put,List.setIfInBounds_toArray,List.set_cons_zero,List.set_cons_succ,i64_w,i32_w]
              rfl
             refine pure_ (i:=3) (N:=some 62) (v:=?_) (a':=?_) #[true,true,true,true,false,false,false,false,false,false,false,false,false,false,false,false,false] rfl rfl (any_of HT_.out (by kernel_rfl)) (fun _ _ _ h => h) (Or.inl ⟨by rfl,?_⟩) ?_ ?_
             rotate_left
             ·intro w'
              go_simp
              with_reducible rfl
             rotate_left
             ·simp only [Act.put,List.setIfInBounds_toArray,List.set_cons_zero,List.set_cons_succ,i64_w,i32_w]
              rfl
             refine pure_ (i:=4) (N:=some 63) (v:=?_) (a':=?_) #[true,true,true,true,true,false,false,false,false,false,false,false,false,false,false,false,false] rfl rfl (any_of HT_.out (by kernel_rfl)) (fun _ _ _ h => h) (Or.inl ⟨by rfl,?_⟩) ?_ ?_
             rotate_left
             ·intro w'
              go_simp
              with_reducible rfl
             rotate_left
             ·simp only [Act.put,List.setIfInBounds_toArray,List.set_cons_zero,List.set_cons_succ,i64_w,i32_w]
              rfl
             refine pure_ (i:=5) (N:=some 64) (v:=?_) (a':=?_) #[true,true,true,true,true,true,false,false,false,false,false,false,false,false,false,false,false] rfl rfl (any_of HT_.out (by kernel_rfl)) (fun _ _ _ h => h) (Or.inl ⟨by rfl,?_⟩) ?_ ?_
             rotate_left
             ·intro w'
              go_simp
              with_reducible rfl
             rotate_left
             ·simp only [Act.put,List.setIfInBounds_toArray,List.set_cons_zero,List.set_cons_succ,i64_w,i32_w]
              rfl
             refine pure_ (i:=6) (N:=some 65) (v:=undef) (a':=?_) #[true,true,true,true,true,true,true,false,false,false,false,false,false,false,false,false,false] rfl rfl (any_of HT_.out (by kernel_rfl)) (fun _ _ _ h => h) (Or.inr ⟨by rfl,rfl⟩) ?_ ?_
             rotate_left
             ·simp only [Act.put,List.setIfInBounds_toArray,List.set_cons_zero,List.set_cons_succ,i64_w,i32_w]
              rfl
             refine pure_ (i:=7) (N:=some 66) (v:=undef) (a':=?_) #[true,true,true,true,true,true,true,true,false,false,false,false,false,false,false,false,false] rfl rfl (any_of HT_.out (by kernel_rfl)) (fun _ _ _ h => h) (Or.inr ⟨by rfl,rfl⟩) ?_ ?_
             rotate_left
             ·simp only [Act.put,List.setIfInBounds_toArray,List.set_cons_zero,List.set_cons_succ,i64_w,i32_w]
              rfl
             refine pure_ (i:=8) (N:=some 67) (v:=undef) (a':=?_) #[true,true,true,true,true,true,true,true,true,false,false,false,false,false,false,false,false] rfl rfl (any_of HT_.out (by kernel_rfl)) (fun _ _ _ h => h) (Or.inr ⟨by rfl,rfl⟩) ?_ ?_
             rotate_left
             ·simp only [Act.put,List.setIfInBounds_toArray,List.set_cons_zero,List.set_cons_succ,i64_w,i32_w]
              rfl
             refine pure_ (i:=9) (N:=some 68) (v:=undef) (a':=?_) #[true,true,true,true,true,true,true,true,true,true,false,false,false,false,false,false,false] rfl rfl (any_of HT_.out (by kernel_rfl)) (fun _ _ _ h => h) (Or.inr ⟨by rfl,rfl⟩) ?_ ?_
             rotate_left
             ·simp only [Act.put,List.setIfInBounds_toArray,List.set_cons_zero,List.set_cons_succ,i64_w,i32_w]
              rfl
             refine pure_ (i:=10) (N:=some 69) (v:=undef) (a':=?_) #[true,true,true,true,true,true,true,true,true,true,true,false,false,false,false,false,false] rfl rfl (any_of HT_.out (by kernel_rfl)) (fun _ _ _ h => h) (Or.inr ⟨by rfl,rfl⟩) ?_ ?_
             rotate_left
             ·simp only [Act.put,List.setIfInBounds_toArray,List.set_cons_zero,List.set_cons_succ,i64_w,i32_w]
              rfl
             refine pure_ (i:=11) (N:=some 70) (v:=undef) (a':=?_) #[true,true,true,true,true,true,true,true,true,true,true,true,false,false,false,false,false] rfl rfl (any_of HT_.out (by kernel_rfl)) (fun _ _ _ h => h) (Or.inr ⟨by rfl,rfl⟩) ?_ ?_
             rotate_left
             ·simp only [Act.put,List.setIfInBounds_toArray,List.set_cons_zero,List.set_cons_succ,i64_w,i32_w]
              rfl
             refine pure_ (i:=12) (N:=some 71) (v:=undef) (a':=?_) #[true,true,true,true,true,true,true,true,true,true,true,true,true,false,false,false,false] rfl rfl (any_of HT_.out (by kernel_rfl)) (fun _ _ _ h => h) (Or.inr ⟨by rfl,rfl⟩) ?_ ?_
             rotate_left
             ·simp only [Act.put,List.setIfInBounds_toArray,List.set_cons_zero,List.set_cons_succ,i64_w,i32_w]
              rfl
             refine pure_ (i:=13) (N:=some 72) (v:=undef) (a':=?_) #[true,true,true,true,true,true,true,true,true,true,true,true,true,true,false,false,false] rfl rfl (any_of HT_.out (by kernel_rfl)) (fun _ _ _ h => h) (Or.inr ⟨by rfl,rfl⟩) ?_ ?_
             rotate_left
             ·simp only [Act.put,List.setIfInBounds_toArray,List.set_cons_zero,List.set_cons_succ,i64_w,i32_w]
              rfl
             refine pure_ (i:=14) (N:=some 73) (v:=undef) (a':=?_) #[true,true,true,true,true,true,true,true,true,true,true,true,true,true,true,false,false] rfl rfl (any_of HT_.out (by kernel_rfl)) (fun _ _ _ h => h) (Or.inr ⟨by rfl,rfl⟩) ?_ ?_
             rotate_left
             ·simp only [Act.put,List.setIfInBounds_toArray,List.set_cons_zero,List.set_cons_succ,i64_w,i32_w]
              rfl
             refine pure_ (i:=15) (N:=some 74) (v:=?_) (a':=?_) #[true,true,true,true,true,true,true,true,true,true,true,true,true,true,true,true,false] rfl rfl (any_of HT_.out (by kernel_rfl)) (fun _ _ _ h => h) (Or.inl ⟨by rfl,?_⟩) ?_ ?_
             rotate_left
             ·intro w'
              go_simp
              with_reducible rfl
             rotate_left
             ·simp only [Act.put,List.setIfInBounds_toArray,List.set_cons_zero,List.set_cons_succ,i64_w,i32_w]
              rfl
             refine pure_ (i:=16) (N:=some 13) (v:=?_) (a':=?_) #[true,true,true,true,true,true,true,true,true,true,true,true,true,true,true,true,true] rfl rfl (any_of HT_.out (by kernel_rfl)) (fun _ _ _ h => h) (Or.inl ⟨by rfl,?_⟩) ?_ ?_
             rotate_left
             ·intro w'
              go_simp
              with_reducible rfl
             rotate_left
             ·simp only [Act.put,List.setIfInBounds_toArray,List.set_cons_zero,List.set_cons_succ,i64_w,i32_w]
              rfl
             refine done_ (done_of HT_.out (by kernel_rfl)) ?_
             have hcz69_0 : w68.cell? ⟨gb222,0,none⟩ = some (.string ((rd_T33 x7_1 x54_2).f0)):=(blk_cell BK222.out 0).trans rfl
             have hcz69_1 : w68.cell? ⟨gb222,1,none⟩ = some (.int .i64 ((rd_T33 x7_1 x54_2).f1)):=(blk_cell BK222.out 1).trans rfl
             have hcz69_2 : w68.cell? ⟨gb222,2,none⟩ = some (.bool ((rd_T33 x7_1 x54_2).f2)):=(blk_cell BK222.out 2).trans rfl
             have hcz69_3 : w68.cell? ⟨gb222,3,none⟩ = some (.int .i64 ((rd_T33 x7_1 x54_2).f3)):=(blk_cell BK222.out 3).trans rfl
             have hfz69_0:=blk_frozen BK222.out 0
             have hfz69_1:=blk_frozen BK222.out 1
             have hfz69_2:=blk_frozen BK222.out 2
             have hfz69_3:=blk_frozen BK222.out 3
             try go_wp2_with (first | ((with_reducible refine gate_builtin (b:=.append) (xs:=#[.tmp 86,.tmp 88]) rfl ?_);at_builtin;refine Kd.R_append k33 (w0:=w) w.heap.size rfl (.tmp 86) (.tmp 88) 26 33 (.agg #[(.string ⟨#[]⟩),(.int .i64 0),(.bool false),(.int .i64 0)]) 40 rfl Try.underlying26 info33 rfl (by decide) (by omega) u10 x10_2 (⟨(rd_T33 x7_1 x54_2).f0,(rd_T33 x7_1 x54_2).f1,(rd_T33 x7_1 x54_2).f2,(rd_T33 x7_1 x54_2).f3⟩ : S33) [.string ((rd_T33 x7_1 x54_2).f0),.int .i64 ((rd_T33 x7_1 x54_2).f1),.bool ((rd_T33 x7_1 x54_2).f2),.int .i64 ((rd_T33 x7_1 x54_2).f3)] (fun k_ => some k_ ≠ (.slice (some ad221) x7_1.length co44 : Value).ownBlock ∧ some k_ ≠ (.slice (some ad221) x7_1.length co44 : Value).ownBlock ∧ k_ ≠ gb222) (fun _ => False) rfl rfl ?aP (fun _ hk => hk.elim) ?aF ?aO ?aB ?aS ?aL ?_;(case aP => exact k33_mkM _ _ _ (⟨(rd_T33 x7_1 x54_2).f0,(rd_T33 x7_1 x54_2).f1,(rd_T33 x7_1 x54_2).f2,(rd_T33 x7_1 x54_2).f3⟩ : S33));(case aB => exact (by repeat (first | (with_reducible first | exact HB.out | apply below_alloc | apply pw_below_drewN | apply below_drew1 | refine below_set ?_ GE222.out) | exact HB.out)));(case aF => exact (fun k_ hk => ⟨Kd.fresh' (Kd.R_lt (by (with_reducible repeat (first | apply Kd.R_alloc | apply Kd.R_drewN | apply Kd.R_drew));exact HO_7.out)) k_ hk,Kd.fresh' (Kd.R_lt (by (with_reducible repeat (first | apply Kd.R_alloc | apply Kd.R_drewN | apply Kd.R_drew));exact HO_52.out)) k_ hk,Kd.freshB (g:=gb222) (o:=.cells #[.string ((rd_T33 x7_1 x54_2).f0),.int .i64 ((rd_T33 x7_1 x54_2).f1),.bool ((rd_T33 x7_1 x54_2).f2),.int .i64 ((rd_T33 x7_1 x54_2).f3)] 33 (0,0)) (by (with_reducible repeat (first | refine blk_drewN ?_ _ | refine blk_drew ?_ | refine blk_alloc ?_ _));exact BK222.out) k_ hk⟩));(case aO => exact (by (with_reducible repeat (first | apply Kd.R_alloc | apply Kd.R_drewN | apply Kd.R_drew));exact HO_10.out));(case aS => exact (below_size (by repeat (first | (with_reducible first | exact HB.out | apply below_alloc | apply pw_below_drewN | apply below_drew1 | refine below_set ?_ GE222.out) | exact HB.out))));(case aL => have:=LMc64.out;omega);intro v227 w70 ho hb hg hat;rw [← Ny226.out] at ho;have n0_:=Aside0.mk (Kd.R_after (ok:=(fun k_ => k_ ≠ gb222)) (by (with_reducible repeat (first | apply Kd.R_alloc | apply Kd.R_drewN | apply Kd.R_drew));exact Kd.R_mono HO_7.out (fun _ hk => ⟨hk.2,hk.1⟩)) hg hat);have n1_:=Aside0.mk (Kd.R_after (ok:=(fun k_ => k_ ≠ gb222)) (by (with_reducible repeat (first | apply Kd.R_alloc | apply Kd.R_drewN | apply Kd.R_drew));exact Kd.R_mono HO_52.out (fun _ hk => ⟨hk.2,hk.1⟩)) hg hat);have n2_:=Aside0.mk (blk_grown (g:=gb222) (o:=.cells #[.string ((rd_T33 x7_1 x54_2).f0),.int .i64 ((rd_T33 x7_1 x54_2).f1),.bool ((rd_T33 x7_1 x54_2).f2),.int .i64 ((rd_T33 x7_1 x54_2).f3)] 33 (0,0)) (by (with_reducible repeat (first | refine blk_drewN ?_ _ | refine blk_drew ?_ | refine blk_alloc ?_ _));exact BK222.out) hg (Kd.R_away HO_10.out (fun _ hk => hk.2.2)));have n3_:=Aside0.mk (hb);have n4_:=Aside0.mk (ho);clear HO_7;clear HO_52;clear BK222;clear HB;clear HO_10;have HO_7:=n0_;have HO_52:=n1_;have BK222:=n2_;have HB:=n3_;have HO228:=n4_;clear n0_ n1_ n2_ n3_ n4_;clear ho hb hg hat))
             go_roundg k2
             case measure => have:=HK1.out;have:=HK2.out;omega
             case rel => exact ⟨(y226),(wrap64 (x54_2 + 1)),(by first | rfl | (simp;done) | (simp [*];done)),H',⟨by have:=HK1.out;have:=HK2.out;omega⟩,⟨by (with_reducible repeat (first | apply Kd.R_alloc | apply Kd.R_drewN | apply Kd.R_drew));exact Kd.R_mono HO_7.out (fun _ hk => hk.2)⟩,⟨by (with_reducible repeat (first | apply Kd.R_alloc | apply Kd.R_drewN | apply Kd.R_drew));exact Kd.R_mono HO228.out (fun _ hk => ⟨hk.1,hk.2.1⟩)⟩,⟨by (with_reducible repeat (first | apply Kd.R_alloc | apply Kd.R_drewN | apply Kd.R_drew));exact Kd.R_mono HO_52.out (fun _ hk => hk.2)⟩,⟨by repeat (first | (with_reducible first | exact HB.out | apply below_alloc | apply pw_below_drewN | apply below_drew1 | refine below_set ?_ GE222.out) | exact HB.out)⟩⟩
            ·rw [if_neg c64] at H
             exact absurd H (by simp)
          ·rw [if_neg c48] at H
           have c48b0 : ((wrap64 (x54_2 + 1)) == (x7_1.length : Int)) = false:=beq_eq_false_iff_ne.mpr c48
           have c48b1 : ((wrap64 (x54_2 + 1)) != (x7_1.length : Int)) = true:=bne_iff_ne.mpr c48
           obtain ⟨ji71,hji71⟩ : ∃ j_ : Int,(wrap64 (x54_2 + 1)) = j_:=⟨_,rfl⟩
           replace H : (if 0 ≤ (ji71) then (if (ji71) < (x7_1.length : Int) then (if a2 = true then (if (¬ ((rd_T33 x7_1 (ji71)).f0).toList = ((rd_T33 x7_1 x54_2).f0).toList) then (if ((rd_T33 x7_1 x54_2).f2 = true) then (impl_RunTrim.l1 k2 a2 x7_1 x10_2 x7_1 (x7_1.length : Int) ji71) else (if x10_2.length < 3518437208883 then (impl_RunTrim.l1 k2 a2 x7_1 (x10_2 ++ [(⟨(rd_T33 x7_1 x54_2).f0,(rd_T33 x7_1 x54_2).f1,(rd_T33 x7_1 x54_2).f2,(rd_T33 x7_1 x54_2).f3⟩ : S33)]) x7_1 (x7_1.length : Int) ji71) else (none))) else (if x10_2.length < 3518437208883 then (impl_RunTrim.l1 k2 a2 x7_1 (x10_2 ++ [(⟨(rd_T33 x7_1 x54_2).f0,(rd_T33 x7_1 x54_2).f1,(rd_T33 x7_1 x54_2).f2,(rd_T33 x7_1 x54_2).f3⟩ : S33)]) x7_1 (x7_1.length : Int) ji71) else (none))) else (if x10_2.length < 3518437208883 then (impl_RunTrim.l1 k2 a2 x7_1 (x10_2 ++ [(⟨(rd_T33 x7_1 x54_2).f0,(rd_T33 x7_1 x54_2).f1,(rd_T33 x7_1 x54_2).f2,(rd_T33 x7_1 x54_2).f3⟩ : S33)]) x7_1 (x7_1.length : Int) ji71) else (none))) else (none)) else (none)) = some r:=by first | (rw [hji71] at H;exact H) | (simp only [hji71] at H ⊢;exact H)
           (try rw [hji71] at c48b0)
           (try rw [hji71] at c48b1)
           have hji71w : (IntKind.i64.wrap (x54_2 + 1)) = ji71:=(i64_w _).trans hji71
           by_cases c72 : 0 ≤ (ji71)
           ·rw [if_pos c72] at H
            have c72b0 : decide (0 ≤ (ji71)) = true:=decide_eq_true c72
            clear c72
            by_cases c73 : (ji71) < (x7_1.length : Int)
            ·rw [if_pos c73] at H
             have c73b0 : decide ((ji71) < (x7_1.length : Int)) = true:=decide_eq_true c73
             clear c73
             by_cases c74 : a2 = true
             ·subst c74
              have H1 : (if (¬ ((rd_T33 x7_1 (ji71)).f0).toList = ((rd_T33 x7_1 x54_2).f0).toList) then (if ((rd_T33 x7_1 x54_2).f2 = true) then (impl_RunTrim.l1 k2 true x7_1 x10_2 x7_1 (x7_1.length : Int) ji71) else (if x10_2.length < 3518437208883 then (impl_RunTrim.l1 k2 true x7_1 (x10_2 ++ [(⟨(rd_T33 x7_1 x54_2).f0,(rd_T33 x7_1 x54_2).f1,(rd_T33 x7_1 x54_2).f2,(rd_T33 x7_1 x54_2).f3⟩ : S33)]) x7_1 (x7_1.length : Int) ji71) else (none))) else (if x10_2.length < 3518437208883 then (impl_RunTrim.l1 k2 true x7_1 (x10_2 ++ [(⟨(rd_T33 x7_1 x54_2).f0,(rd_T33 x7_1 x54_2).f1,(rd_T33 x7_1 x54_2).f2,(rd_T33 x7_1 x54_2).f3⟩ : S33)]) x7_1 (x7_1.length : Int) ji71) else (none))) = some r:=by rw [if_pos rfl] at H;exact H
              clear H
              have H:=H1
              clear H1
              by_cases c75 : (¬ ((rd_T33 x7_1 (ji71)).f0).toList = ((rd_T33 x7_1 x54_2).f0).toList)
              ·rw [if_pos c75] at H
               have c75b0 : (((rd_T33 x7_1 (ji71)).f0).toList == ((rd_T33 x7_1 x54_2).f0).toList) = false:=beq_eq_false_iff_ne.mpr c75
               have c75b1 : (((rd_T33 x7_1 (ji71)).f0).toList != ((rd_T33 x7_1 x54_2).f0).toList) = true:=bne_iff_ne.mpr c75
               clear c75
               obtain ⟨bq76,hbq76⟩ : ∃ b_ : Bool,b_ = ((rd_T33 x7_1 x54_2).f2):=⟨_,rfl⟩
               replace H : (if (bq76 = true) then (impl_RunTrim.l1 k2 true x7_1 x10_2 x7_1 (x7_1.length : Int) ji71) else (if x10_2.length < 3518437208883 then (impl_RunTrim.l1 k2 true x7_1 (x10_2 ++ [(⟨(rd_T33 x7_1 x54_2).f0,(rd_T33 x7_1 x54_2).f1,bq76,(rd_T33 x7_1 x54_2).f3⟩ : S33)]) x7_1 (x7_1.length : Int) ji71) else (none))) = some r:=by rw [← hbq76] at H;exact H
               have Nbq76:=Aside0.mk hbq76
               clear hbq76
               by_cases c77 : (bq76 = true)
               ·subst c77
                have H1 : (impl_RunTrim.l1 k2 true x7_1 x10_2 x7_1 (x7_1.length : Int) ji71) = some r:=by rw [if_pos rfl] at H;exact H
                clear H
                have H:=H1
                clear H1
                have H':=Aside0.mk H
                clear H
                have p221 : 0 ≤ (x54_2 : Int):=of_decide_eq_true (by first | (with_reducible assumption) | assumption)
                have q221 : x54_2 < (x7_1.length : Int):=of_decide_eq_true (by first | (with_reducible assumption) | assumption)
                obtain ⟨ad221,e221,hx221_0,hx221_1,hx221_2,hx221_3⟩:=at_T33 (Kd.R_reads' HO_52.out).2.2 x54_2 p221 q221
                (try rw [← Nbq76.out] at hx221_2)
                cases e221
                replace p221:=eq_true p221
                replace q221:=eq_true q221
                try go_wp2_with (first | ((with_reducible refine gate_dst (N:=12) rfl ?_);refine box_event ?hg (N:=12) ?hd (cs:=#[.string (⟨#[]⟩ : ByteArray),.int .i64 0,.bool false,.int .i64 0]) (t:=33) ?hr ?_;(case hd => rfl);(case hg => rfl);(case hr => first | (go_simp;done) | (go_simp;rfl));intro gb222 hg w78 hbox hb;have n0_:=Aside0.mk (Kd.R_below (Kd.R_elderB (by (with_reducible repeat (first | apply Kd.R_alloc | apply Kd.R_drewN | apply Kd.R_drew));exact HO_7.out) gb222 (Nat.le_of_eq hg.symm)) hb);have n1_:=Aside0.mk (Kd.R_below (Kd.R_elderB (by (with_reducible repeat (first | apply Kd.R_alloc | apply Kd.R_drewN | apply Kd.R_drew));exact HO_10.out) gb222 (Nat.le_of_eq hg.symm)) hb);have n2_:=Aside0.mk (Kd.R_below (Kd.R_elderB (by (with_reducible repeat (first | apply Kd.R_alloc | apply Kd.R_drewN | apply Kd.R_drew));exact HO_52.out) gb222 (Nat.le_of_eq hg.symm)) hb);have n3_:=Aside0.mk (below_step (by repeat (first | (with_reducible first | exact HB.out | apply below_alloc | apply pw_below_drewN | apply below_drew1) | exact HB.out)) hb);have n4_:=Aside0.mk (hbox);have n5_:=Aside0.mk ((by rw [hg];exact (below_size (by repeat (first | (with_reducible first | exact HB.out | apply below_alloc | apply pw_below_drewN | apply below_drew1) | exact HB.out))) : w.heap.size ≤ gb222));have n6_:=Aside0.mk ((by rw [hg];exact (below_size (by repeat (first | (with_reducible first | exact HB.out | apply below_alloc | apply pw_below_drewN | apply below_drew1) | exact HB.out))) : w.heap.size ≤ gb222));clear HO_7;clear HO_10;clear HO_52;clear HB;have HO_7:=n0_;have HO_10:=n1_;have HO_52:=n2_;have HB:=n3_;have BK222:=n4_;have GW222:=n5_;have GE222:=n6_;clear n0_ n1_ n2_ n3_ n4_ n5_ n6_;clear hb hbox hg;have hcz79_0 : w78.cell? ⟨gb222,0,none⟩ = some (.string (⟨#[]⟩ : ByteArray)):=(blk_cell BK222.out 0).trans rfl;have hcz79_1 : w78.cell? ⟨gb222,1,none⟩ = some (.int .i64 0):=(blk_cell BK222.out 1).trans rfl;have hcz79_2 : w78.cell? ⟨gb222,2,none⟩ = some (.bool false):=(blk_cell BK222.out 2).trans rfl;have hcz79_3 : w78.cell? ⟨gb222,3,none⟩ = some (.int .i64 0):=(blk_cell BK222.out 3).trans rfl;have hfz79_0:=blk_frozen BK222.out 0;have hfz79_1:=blk_frozen BK222.out 1;have hfz79_2:=blk_frozen BK222.out 2;have hfz79_3:=blk_frozen BK222.out 3))
                have n0_ : Aside0 (Kd.R k33 33 ((((w78.setCell ⟨gb222,0,none⟩ (.string ((rd_T33 x7_1 x54_2).f0))).setCell ⟨gb222,1,none⟩ (.int .i64 ((rd_T33 x7_1 x54_2).f1))).setCell ⟨gb222,2,none⟩ (.bool true)).setCell ⟨gb222,3,none⟩ (.int .i64 ((rd_T33 x7_1 x54_2).f3))) w.heap.size (fun k_ => some k_ ≠ (u10 : Value).ownBlock ∧ k_ ≠ gb222) (.slice (some ad221) x7_1.length co44) x7_1):=⟨by (with_reducible repeat (first | apply Kd.R_alloc | apply Kd.R_drewN | apply Kd.R_drew));exact Kd.R_mono (Kd.R_far (p:=⟨gb222,3,none⟩) (Kd.R_far (p:=⟨gb222,2,none⟩) (Kd.R_far (p:=⟨gb222,1,none⟩) (Kd.R_far (p:=⟨gb222,0,none⟩) (Kd.R_mono HO_7.out (fun k_ hk => (⟨hk,hk.2⟩ : _ ∧ k_ ≠ gb222))) (fun _ hk => hk.2) (.string ((rd_T33 x7_1 x54_2).f0))) (fun _ hk => hk.2) (.int .i64 ((rd_T33 x7_1 x54_2).f1))) (fun _ hk => hk.2) (.bool true)) (fun _ hk => hk.2) (.int .i64 ((rd_T33 x7_1 x54_2).f3))) (fun _ hk => ⟨hk.1.1,hk.1.2⟩)⟩
                have n1_ : Aside0 (Kd.R k33 33 ((((w78.setCell ⟨gb222,0,none⟩ (.string ((rd_T33 x7_1 x54_2).f0))).setCell ⟨gb222,1,none⟩ (.int .i64 ((rd_T33 x7_1 x54_2).f1))).setCell ⟨gb222,2,none⟩ (.bool true)).setCell ⟨gb222,3,none⟩ (.int .i64 ((rd_T33 x7_1 x54_2).f3))) w.heap.size (fun k_ => some k_ ≠ (.slice (some ad221) x7_1.length co44 : Value).ownBlock ∧ some k_ ≠ (.slice (some ad221) x7_1.length co44 : Value).ownBlock ∧ k_ ≠ gb222) u10 x10_2):=⟨by (with_reducible repeat (first | apply Kd.R_alloc | apply Kd.R_drewN | apply Kd.R_drew));exact Kd.R_mono (Kd.R_far (p:=⟨gb222,3,none⟩) (Kd.R_far (p:=⟨gb222,2,none⟩) (Kd.R_far (p:=⟨gb222,1,none⟩) (Kd.R_far (p:=⟨gb222,0,none⟩) (Kd.R_mono HO_10.out (fun k_ hk => (⟨hk,hk.2⟩ : _ ∧ k_ ≠ gb222))) (fun _ hk => hk.2) (.string ((rd_T33 x7_1 x54_2).f0))) (fun _ hk => hk.2) (.int .i64 ((rd_T33 x7_1 x54_2).f1))) (fun _ hk => hk.2) (.bool true)) (fun _ hk => hk.2) (.int .i64 ((rd_T33 x7_1 x54_2).f3))) (fun _ hk => ⟨hk.1.1.1,⟨hk.1.1.2,hk.1.2⟩⟩)⟩
                have n2_ : Aside0 (Kd.R k33 33 ((((w78.setCell ⟨gb222,0,none⟩ (.string ((rd_T33 x7_1 x54_2).f0))).setCell ⟨gb222,1,none⟩ (.int .i64 ((rd_T33 x7_1 x54_2).f1))).setCell ⟨gb222,2,none⟩ (.bool true)).setCell ⟨gb222,3,none⟩ (.int .i64 ((rd_T33 x7_1 x54_2).f3))) w.heap.size (fun k_ => some k_ ≠ (u10 : Value).ownBlock ∧ k_ ≠ gb222) (.slice (some ad221) x7_1.length co44) x7_1):=⟨by (with_reducible repeat (first | apply Kd.R_alloc | apply Kd.R_drewN | apply Kd.R_drew));exact Kd.R_mono (Kd.R_far (p:=⟨gb222,3,none⟩) (Kd.R_far (p:=⟨gb222,2,none⟩) (Kd.R_far (p:=⟨gb222,1,none⟩) (Kd.R_far (p:=⟨gb222,0,none⟩) (Kd.R_mono HO_52.out (fun k_ hk => (⟨hk,hk.2⟩ : _ ∧ k_ ≠ gb222))) (fun _ hk => hk.2) (.string ((rd_T33 x7_1 x54_2).f0))) (fun _ hk => hk.2) (.int .i64 ((rd_T33 x7_1 x54_2).f1))) (fun _ hk => hk.2) (.bool true)) (fun _ hk => hk.2) (.int .i64 ((rd_T33 x7_1 x54_2).f3))) (fun _ hk => ⟨hk.1.1,hk.1.2⟩)⟩
                have n3_ : Aside0 (((((w78.setCell ⟨gb222,0,none⟩ (.string ((rd_T33 x7_1 x54_2).f0))).setCell ⟨gb222,1,none⟩ (.int .i64 ((rd_T33 x7_1 x54_2).f1))).setCell ⟨gb222,2,none⟩ (.bool true)).setCell ⟨gb222,3,none⟩ (.int .i64 ((rd_T33 x7_1 x54_2).f3))).heap[gb222]? = some (.cells #[.string ((rd_T33 x7_1 x54_2).f0),.int .i64 ((rd_T33 x7_1 x54_2).f1),.bool true,.int .i64 ((rd_T33 x7_1 x54_2).f3)] 33 (0,0))):=⟨by (with_reducible repeat (first | refine blk_drewN ?_ _ | refine blk_drew ?_ | refine blk_alloc ?_ _));refine blk_put (cs:=#[.string ((rd_T33 x7_1 x54_2).f0),.int .i64 ((rd_T33 x7_1 x54_2).f1),.bool true,.int .i64 0]) ?_ 3 _ rfl;(with_reducible repeat (first | refine blk_drewN ?_ _ | refine blk_drew ?_ | refine blk_alloc ?_ _));refine blk_put (cs:=#[.string ((rd_T33 x7_1 x54_2).f0),.int .i64 ((rd_T33 x7_1 x54_2).f1),.bool false,.int .i64 0]) ?_ 2 _ rfl;(with_reducible repeat (first | refine blk_drewN ?_ _ | refine blk_drew ?_ | refine blk_alloc ?_ _));refine blk_put (cs:=#[.string ((rd_T33 x7_1 x54_2).f0),.int .i64 0,.bool false,.int .i64 0]) ?_ 1 _ rfl;(with_reducible repeat (first | refine blk_drewN ?_ _ | refine blk_drew ?_ | refine blk_alloc ?_ _));refine blk_put (cs:=#[.string (⟨#[]⟩ : ByteArray),.int .i64 0,.bool false,.int .i64 0]) ?_ 0 _ rfl;(with_reducible repeat (first | refine blk_drewN ?_ _ | refine blk_drew ?_ | refine blk_alloc ?_ _));exact BK222.out⟩
                have n4_ : Aside0 (Below w.heap.size w ((((w78.setCell ⟨gb222,0,none⟩ (.string ((rd_T33 x7_1 x54_2).f0))).setCell ⟨gb222,1,none⟩ (.int .i64 ((rd_T33 x7_1 x54_2).f1))).setCell ⟨gb222,2,none⟩ (.bool true)).setCell ⟨gb222,3,none⟩ (.int .i64 ((rd_T33 x7_1 x54_2).f3)))):=⟨by repeat (first | (with_reducible first | exact HB.out | apply below_alloc | apply pw_below_drewN | apply below_drew1 | refine below_set ?_ GE222.out) | exact HB.out)⟩
                (try clear HO_7)
                (try clear HO_10)
                (try clear HO_52)
                (try clear BK222)
                (try clear HB)
                generalize ((((w78.setCell ⟨gb222,0,none⟩ (.string ((rd_T33 x7_1 x54_2).f0))).setCell ⟨gb222,1,none⟩ (.int .i64 ((rd_T33 x7_1 x54_2).f1))).setCell ⟨gb222,2,none⟩ (.bool true)).setCell ⟨gb222,3,none⟩ (.int .i64 ((rd_T33 x7_1 x54_2).f3))) = w80 at n0_ n1_ n2_ n3_ n4_ ⊢
                have HO_7:=n0_
                have HO_10:=n1_
                have HO_52:=n2_
                have BK222:=n3_
                have HB:=n4_
                clear n0_ n1_ n2_ n3_ n4_
                have n0_:=Aside0.mk (Kd.R_drew HO_7.out)
                have n1_:=Aside0.mk (Kd.R_drew HO_10.out)
                have n2_:=Aside0.mk (Kd.R_drew HO_52.out)
                have n3_:=Aside0.mk (blk_drew BK222.out)
                have n4_:=Aside0.mk (below_drew1 HB.out)
                clear HO_7
                clear HO_10
                clear HO_52
                clear BK222
                clear HB
                have HO_7:=n0_
                have HO_10:=n1_
                have HO_52:=n2_
                have BK222:=n3_
                have HB:=n4_
                clear n0_ n1_ n2_ n3_ n4_
                have p229 : 0 ≤ ((ji71) : Int):=of_decide_eq_true (by first | (with_reducible assumption) | assumption)
                have q229 : (ji71) < (x7_1.length : Int):=of_decide_eq_true (by first | (with_reducible assumption) | assumption)
                obtain ⟨ad229,e229,hx229_0,hx229_1,hx229_2,hx229_3⟩:=at_T33 (Kd.R_reads' HO_7.out).2.2 (ji71) p229 q229
                (try rw [← Nbq76.out] at hx229_2)
                obtain rfl : ad221 = ad229:=(by injection e229)
                replace p229:=eq_true p229
                replace q229:=eq_true q229
                refine start_ (n:=17) (S:=fun w' => w'.cell? ⟨gb222,0,none⟩ = some (.string ((rd_T33 x7_1 x54_2).f0)) ∧ w'.cell? ⟨gb222,1,none⟩ = some (.int .i64 ((rd_T33 x7_1 x54_2).f1)) ∧ w'.cell? ⟨gb222,2,none⟩ = some (.bool true) ∧ w'.cell? ⟨gb222,3,none⟩ = some (.int .i64 ((rd_T33 x7_1 x54_2).f3)) ∧ w'.cell? (ad221.add (((ji71)).toNat * 4)) = some (.string ((rd_T33 x7_1 (ji71)).f0)) ∧ w'.cell? ⟨(ad221.add (((ji71)).toNat * 4)).block,(ad221.add (((ji71)).toNat * 4)).off + 1,none⟩ = some (.int .i64 ((rd_T33 x7_1 (ji71)).f1)) ∧ w'.cell? ⟨(ad221.add (((ji71)).toNat * 4)).block,(ad221.add (((ji71)).toNat * 4)).off + 2,none⟩ = some (.bool ((rd_T33 x7_1 (ji71)).f2)) ∧ w'.cell? ⟨(ad221.add (((ji71)).toNat * 4)).block,(ad221.add (((ji71)).toNat * 4)).off + 3,none⟩ = some (.int .i64 ((rd_T33 x7_1 (ji71)).f3))) (ds:=[]) #[false,false,false,false,false,false,false,false,false,false,false,false,false,false,false,false,false] (by kernel_rfl) rfl rfl ⟨(blk_cell BK222.out 0).trans rfl,(blk_cell BK222.out 1).trans rfl,(blk_cell BK222.out 2).trans rfl,(blk_cell BK222.out 3).trans rfl,hx229_0,hx229_1,hx229_2,hx229_3⟩ (fun hHeld => ?_);refine with_tabW impl_RunTrim.tab14 impl_RunTrim.bits14 (fun HT_ HW_ => ?_)
                generalize w80.drew = w81 at HO_7 HO_10 HO_52 BK222 HB hx229_0 hx229_1 hx229_2 hx229_3 hHeld ⊢
                refine pure_ (i:=0) (N:=some 59) (v:=?_) (a':=?_) #[true,false,false,false,false,false,false,false,false,false,false,false,false,false,false,false,false] rfl rfl (any_of HT_.out (by kernel_rfl)) (fun _ _ _ h => h) (Or.inl ⟨by rfl,?_⟩) ?_ ?_
                rotate_left
                ·intro w'
                 go_simp
                 with_reducible rfl
                rotate_left
                ·simp only [Act.put,List.setIfInBounds_toArray,List.set_cons_zero,List.set_cons_succ,i64_w,i32_w]
                 rfl
                refine pure_ (i:=1) (N:=some 60) (v:=?_) (a':=?_) #[true,true,false,false,false,false,false,false,false,false,false,false,false,false,false,false,false] rfl rfl (any_of HT_.out (by kernel_rfl)) (fun _ _ _ h => h) (Or.inl ⟨by rfl,?_⟩) ?_ ?_
                rotate_left
                ·intro w'
                 go_simp
                 with_reducible rfl
                rotate_left
                ·simp only [Act.put,List.setIfInBounds_toArray,List.set_cons_zero,List.set_cons_succ,i64_w,i32_w]
                 rfl
                refine pure_ (i:=2) (N:=some 61) (v:=?_) (a':=?_) #[true,true,true,false,false,false,false,false,false,false,false,false,false,false,false,false,false] rfl rfl (any_of HT_.out (by kernel_rfl)) (fun _ _ _ h => h) (Or.inl ⟨by rfl,?_⟩) ?_ ?_
                rotate_left
                ·intro w'
                 go_simp
                 with_reducible rfl
                rotate_left
                ·simp only [Act.put,List.setIfInBounds_toArray,List.set_cons_zero,List.set_cons_succ,i64_w,i32_w]
                 rfl
                refine pure_ (i:=3) (N:=some 62) (v:=?_) (a':=?_) #[true,true,true,true,false,false,false,false,false,false,false,false,false,false,false,false,false] rfl rfl (any_of HT_.out (by kernel_rfl)) (fun _ _ _ h => h) (Or.inl ⟨by rfl,?_⟩) ?_ ?_
                rotate_left
                ·intro w'
                 go_simp
                 with_reducible rfl
                rotate_left
                ·simp only [Act.put,List.setIfInBounds_toArray,List.set_cons_zero,List.set_cons_succ,i64_w,i32_w]
                 rfl
                refine pure_ (i:=4) (N:=some 63) (v:=?_) (a':=?_) #[true,true,true,true,true,false,false,false,false,false,false,false,false,false,false,false,false] rfl rfl (any_of HT_.out (by kernel_rfl)) (fun _ _ _ h => h) (Or.inl ⟨by rfl,?_⟩) ?_ ?_
                rotate_left
                ·intro w'
                 go_simp
                 with_reducible rfl
                rotate_left
                ·simp only [Act.put,List.setIfInBounds_toArray,List.set_cons_zero,List.set_cons_succ,i64_w,i32_w]
                 rfl
                refine pure_ (i:=5) (N:=some 64) (v:=?_) (a':=?_) #[true,true,true,true,true,true,false,false,false,false,false,false,false,false,false,false,false] rfl rfl (any_of HT_.out (by kernel_rfl)) (fun _ _ _ h => h) (Or.inl ⟨by rfl,?_⟩) ?_ ?_
                rotate_left
                ·intro w'
                 go_simp
                 with_reducible rfl
                rotate_left
                ·simp only [Act.put,List.setIfInBounds_toArray,List.set_cons_zero,List.set_cons_succ,i64_w,i32_w]
                 rfl
                refine pure_ (i:=6) (N:=some 65) (v:=?_) (a':=?_) #[true,true,true,true,true,true,true,false,false,false,false,false,false,false,false,false,false] rfl rfl (any_of HT_.out (by kernel_rfl)) (fun _ _ _ h => h) (Or.inl ⟨by rfl,?_⟩) ?_ ?_
                rotate_left
                ·intro w'
                 go_simp
                 with_reducible rfl
                rotate_left
                ·simp only [Act.put,List.setIfInBounds_toArray,List.set_cons_zero,List.set_cons_succ,i64_w,i32_w]
                 rfl
                refine pure_ (i:=7) (N:=some 66) (v:=?_) (a':=?_) #[true,true,true,true,true,true,true,true,false,false,false,false,false,false,false,false,false] rfl rfl (any_of HT_.out (by kernel_rfl)) (fun _ _ _ h => h) (Or.inl ⟨by rfl,?_⟩) ?_ ?_
                rotate_left
                ·intro w'
                 go_simp
                 with_reducible rfl
                rotate_left
                ·simp only [Act.put,List.setIfInBounds_toArray,List.set_cons_zero,List.set_cons_succ,i64_w,i32_w]
                 rfl
                refine pure_ (i:=8) (N:=some 67) (v:=?_) (a':=?_) #[true,true,true,true,true,true,true,true,true,false,false,false,false,false,false,false,false] rfl rfl (any_of HT_.out (by kernel_rfl)) (fun _ _ _ h => h) (Or.inl ⟨by rfl,?_⟩) ?_ ?_
                rotate_left
                ·intro w'
                 go_simp
                 with_reducible rfl
                rotate_left
                ·simp only [Act.put,List.setIfInBounds_toArray,List.set_cons_zero,List.set_cons_succ,i64_w,i32_w]
                 rfl
                refine pure_ (i:=9) (N:=some 68) (v:=?_) (a':=?_) #[true,true,true,true,true,true,true,true,true,true,false,false,false,false,false,false,false] rfl rfl (any_of HT_.out (by kernel_rfl)) (fun _ _ _ h => h) (Or.inl ⟨by rfl,?_⟩) ?_ ?_
                rotate_left
                ·intro w'
                 go_simp
                 with_reducible rfl
                rotate_left
                ·simp only [Act.put,List.setIfInBounds_toArray,List.set_cons_zero,List.set_cons_succ,i64_w,i32_w]
                 rfl
                refine pure_ (i:=10) (N:=some 69) (v:=?_) (a':=?_) #[true,true,true,true,true,true,true,true,true,true,true,false,false,false,false,false,false] rfl rfl (any_of HT_.out (by kernel_rfl)) (fun _ _ _ h => h) (Or.inl ⟨by rfl,?_⟩) ?_ ?_
                rotate_left
                ·intro w'
                 go_simp
                 with_reducible rfl
                rotate_left
                ·simp only [Act.put,List.setIfInBounds_toArray,List.set_cons_zero,List.set_cons_succ,i64_w,i32_w]
                 rfl
                refine pure_ (i:=12) (N:=some 71) (v:=?_) (a':=?_) #[true,true,true,true,true,true,true,true,true,true,true,false,true,false,false,false,false] rfl rfl (any_of HT_.out (by kernel_rfl)) (fun _ _ _ h => h) (Or.inl ⟨by rfl,?_⟩) ?_ ?_
                rotate_left
                ·intro w'
                 go_simp
                 with_reducible rfl
                rotate_left
                ·simp only [Act.put,List.setIfInBounds_toArray,List.set_cons_zero,List.set_cons_succ,i64_w,i32_w]
                 rfl
                refine take_ (i:=11) (N:=some 70) (v:=?_) (a':=?_) #[true,true,true,true,true,true,true,true,true,true,true,true,true,false,false,false,false] rfl rfl (take_ofW HT_.out HW_.out (by kernel_rfl)) (fun _ _ _ h => h) (Or.inl ⟨by rfl,?_⟩) hHeld ?_ ?_
                rotate_left
                ·rintro w' ⟨s0,s1,s2,s3,s4,s5,s6,s7⟩
                 go_simp
                 with_reducible rfl
                rotate_left
                ·simp only [Act.put,List.setIfInBounds_toArray,List.set_cons_zero,List.set_cons_succ,i64_w,i32_w]
                 rfl
                refine take_ (i:=13) (N:=some 72) (v:=?_) (a':=?_) #[true,true,true,true,true,true,true,true,true,true,true,true,true,true,false,false,false] rfl rfl (take_ofW HT_.out HW_.out (by kernel_rfl)) (fun _ _ _ h => h) (Or.inl ⟨by rfl,?_⟩) hHeld ?_ ?_
                rotate_left
                ·rintro w' ⟨s0,s1,s2,s3,s4,s5,s6,s7⟩
                 go_simp
                 with_reducible rfl
                rotate_left
                ·simp only [Act.put,List.setIfInBounds_toArray,List.set_cons_zero,List.set_cons_succ,i64_w,i32_w]
                 rfl
                refine pure_ (i:=14) (N:=some 73) (v:=?_) (a':=?_) #[true,true,true,true,true,true,true,true,true,true,true,true,true,true,true,false,false] rfl rfl (any_of HT_.out (by kernel_rfl)) (fun _ _ _ h => h) (Or.inl ⟨by rfl,?_⟩) ?_ ?_
                rotate_left
                ·intro w'
                 go_simp
                 with_reducible rfl
                rotate_left
                ·simp only [Act.put,List.setIfInBounds_toArray,List.set_cons_zero,List.set_cons_succ,i64_w,i32_w]
                 rfl
                refine pure_ (i:=15) (N:=some 74) (v:=?_) (a':=?_) #[true,true,true,true,true,true,true,true,true,true,true,true,true,true,true,true,false] rfl rfl (any_of HT_.out (by kernel_rfl)) (fun _ _ _ h => h) (Or.inl ⟨by rfl,?_⟩) ?_ ?_
                rotate_left
                ·intro w'
                 go_simp
                 with_reducible rfl
                rotate_left
                ·simp only [Act.put,List.setIfInBounds_toArray,List.set_cons_zero,List.set_cons_succ,i64_w,i32_w]
                 rfl
                refine pure_ (i:=16) (N:=some 13) (v:=?_) (a':=?_) #[true,true,true,true,true,true,true,true,true,true,true,true,true,true,true,true,true] rfl rfl (any_of HT_.out (by kernel_rfl)) (fun _ _ _ h => h) (Or.inl ⟨by rfl,?_⟩) ?_ ?_
                rotate_left
                ·intro w'
                 go_simp
                 with_reducible rfl
                rotate_left
                ·simp only [Act.put,List.setIfInBounds_toArray,List.set_cons_zero,List.set_cons_succ,i64_w,i32_w]
                 rfl
                refine done_ (done_of HT_.out (by kernel_rfl)) ?_
                have hcz82_0 : w81.cell? ⟨gb222,0,none⟩ = some (.string ((rd_T33 x7_1 x54_2).f0)):=(blk_cell BK222.out 0).trans rfl
                have hcz82_1 : w81.cell? ⟨gb222,1,none⟩ = some (.int .i64 ((rd_T33 x7_1 x54_2).f1)):=(blk_cell BK222.out 1).trans rfl
                have hcz82_2 : w81.cell? ⟨gb222,2,none⟩ = some (.bool true):=(blk_cell BK222.out 2).trans rfl
                have hcz82_3 : w81.cell? ⟨gb222,3,none⟩ = some (.int .i64 ((rd_T33 x7_1 x54_2).f3)):=(blk_cell BK222.out 3).trans rfl
                have hfz82_0:=blk_frozen BK222.out 0
                have hfz82_1:=blk_frozen BK222.out 1
                have hfz82_2:=blk_frozen BK222.out 2
                have hfz82_3:=blk_frozen BK222.out 3
                try go_wp2
                go_roundg k2
                case measure => have:=HK1.out;have:=HK2.out;omega
                case rel => exact ⟨(x10_2),(ji71),(by first | rfl | (simp;done) | (simp only [← hji71] <;> (first | rfl | simp)) | (simp [*];done)),H',⟨by have:=HK1.out;have:=HK2.out;omega⟩,⟨by (with_reducible repeat (first | apply Kd.R_alloc | apply Kd.R_drewN | apply Kd.R_drew));exact Kd.R_mono HO_7.out (fun _ hk => hk.1)⟩,⟨by (with_reducible repeat (first | apply Kd.R_alloc | apply Kd.R_drewN | apply Kd.R_drew));exact Kd.R_mono HO_10.out (fun _ hk => ⟨hk.1,hk.2.1⟩)⟩,⟨by (with_reducible repeat (first | apply Kd.R_alloc | apply Kd.R_drewN | apply Kd.R_drew));exact Kd.R_mono HO_52.out (fun _ hk => hk.1)⟩,⟨by repeat (first | (with_reducible first | exact HB.out | apply below_alloc | apply pw_below_drewN | apply below_drew1 | refine below_set ?_ GE222.out) | exact HB.out)⟩⟩
               ·replace c77:=Bool.eq_false_iff.mpr c77
                subst c77
                have H1 : (if x10_2.length < 3518437208883 then (impl_RunTrim.l1 k2 true x7_1 (x10_2 ++ [(⟨(rd_T33 x7_1 x54_2).f0,(rd_T33 x7_1 x54_2).f1,false,(rd_T33 x7_1 x54_2).f3⟩ : S33)]) x7_1 (x7_1.length : Int) ji71) else (none)) = some r:=by rw [if_neg (show ¬ (false = true) by decide)] at H;exact H
                clear H
                have H:=H1
                clear H1
                by_cases c83 : x10_2.length < 3518437208883
                ·rw [if_pos c83] at H
                 have LMc83:=Aside0.mk c83
                 clear c83
                 obtain ⟨y230,hy230⟩ : ∃ y_ : List (S33),y_ = (x10_2 ++ [(⟨(rd_T33 x7_1 x54_2).f0,(rd_T33 x7_1 x54_2).f1,false,(rd_T33 x7_1 x54_2).f3⟩ : S33)]):=⟨_,rfl⟩
                 replace H : (impl_RunTrim.l1 k2 true x7_1 y230 x7_1 (x7_1.length : Int) ji71) = some r:=by first | (rw [hy230];with_reducible exact H) | (have H2_:=(Option.bind_some _ _).symm.trans H;rw [hy230];with_reducible exact H2_) | (have H2_:=(Option.bind_some _ _).symm.trans H;with_reducible exact H2_) | with_reducible exact H | (rw [hy230];exact H) | exact H
                 have Ny230:=Aside0.mk hy230
                 clear hy230
                 have H':=Aside0.mk H
                 clear H
                 have p221 : 0 ≤ (x54_2 : Int):=of_decide_eq_true (by first | (with_reducible assumption) | assumption)
                 have q221 : x54_2 < (x7_1.length : Int):=of_decide_eq_true (by first | (with_reducible assumption) | assumption)
                 obtain ⟨ad221,e221,hx221_0,hx221_1,hx221_2,hx221_3⟩:=at_T33 (Kd.R_reads' HO_52.out).2.2 x54_2 p221 q221
                 (try rw [← Nbq76.out] at hx221_2)
                 cases e221
                 replace p221:=eq_true p221
                 replace q221:=eq_true q221
                 try go_wp2_with (first | ((with_reducible refine gate_dst (N:=12) rfl ?_);refine box_event ?hg (N:=12) ?hd (cs:=#[.string (⟨#[]⟩ : ByteArray),.int .i64 0,.bool false,.int .i64 0]) (t:=33) ?hr ?_;(case hd => rfl);(case hg => rfl);(case hr => first | (go_simp;done) | (go_simp;rfl));intro gb222 hg w84 hbox hb;have n0_:=Aside0.mk (Kd.R_below (Kd.R_elderB (by (with_reducible repeat (first | apply Kd.R_alloc | apply Kd.R_drewN | apply Kd.R_drew));exact HO_7.out) gb222 (Nat.le_of_eq hg.symm)) hb);have n1_:=Aside0.mk (Kd.R_below (Kd.R_elderB (by (with_reducible repeat (first | apply Kd.R_alloc | apply Kd.R_drewN | apply Kd.R_drew));exact HO_10.out) gb222 (Nat.le_of_eq hg.symm)) hb);have n2_:=Aside0.mk (Kd.R_below (Kd.R_elderB (by (with_reducible repeat (first | apply Kd.R_alloc | apply Kd.R_drewN | apply Kd.R_drew));exact HO_52.out) gb222 (Nat.le_of_eq hg.symm)) hb);have n3_:=Aside0.mk (below_step (by repeat (first | (with_reducible first | exact HB.out | apply below_alloc | apply pw_below_drewN | apply below_drew1) | exact HB.out)) hb);have n4_:=Aside0.mk (hbox);have n5_:=Aside0.mk ((by rw [hg];exact (below_size (by repeat (first | (with_reducible first | exact HB.out | apply below_alloc | apply pw_below_drewN | apply below_drew1) | exact HB.out))) : w.heap.size ≤ gb222));have n6_:=Aside0.mk ((by rw [hg];exact (below_size (by repeat (first | (with_reducible first | exact HB.out | apply below_alloc | apply pw_below_drewN | apply below_drew1) | exact HB.out))) : w.heap.size ≤ gb222));clear HO_7;clear HO_10;clear HO_52;clear HB;have HO_7:=n0_;have HO_10:=n1_;have HO_52:=n2_;have HB:=n3_;have BK222:=n4_;have GW222:=n5_;have GE222:=n6_;clear n0_ n1_ n2_ n3_ n4_ n5_ n6_;clear hb hbox hg;have hcz85_0 : w84.cell? ⟨gb222,0,none⟩ = some (.string (⟨#[]⟩ : ByteArray)):=(blk_cell BK222.out 0).trans rfl;have hcz85_1 : w84.cell? ⟨gb222,1,none⟩ = some (.int .i64 0):=(blk_cell BK222.out 1).trans rfl;have hcz85_2 : w84.cell? ⟨gb222,2,none⟩ = some (.bool false):=(blk_cell BK222.out 2).trans rfl;have hcz85_3 : w84.cell? ⟨gb222,3,none⟩ = some (.int .i64 0):=(blk_cell BK222.out 3).trans rfl;have hfz85_0:=blk_frozen BK222.out 0;have hfz85_1:=blk_frozen BK222.out 1;have hfz85_2:=blk_frozen BK222.out 2;have hfz85_3:=blk_frozen BK222.out 3))
                 have n0_ : Aside0 (Kd.R k33 33 ((((w84.setCell ⟨gb222,0,none⟩ (.string ((rd_T33 x7_1 x54_2).f0))).setCell ⟨gb222,1,none⟩ (.int .i64 ((rd_T33 x7_1 x54_2).f1))).setCell ⟨gb222,2,none⟩ (.bool false)).setCell ⟨gb222,3,none⟩ (.int .i64 ((rd_T33 x7_1 x54_2).f3))) w.heap.size (fun k_ => some k_ ≠ (u10 : Value).ownBlock ∧ k_ ≠ gb222) (.slice (some ad221) x7_1.length co44) x7_1):=⟨by (with_reducible repeat (first | apply Kd.R_alloc | apply Kd.R_drewN | apply Kd.R_drew));exact Kd.R_mono (Kd.R_far (p:=⟨gb222,3,none⟩) (Kd.R_far (p:=⟨gb222,2,none⟩) (Kd.R_far (p:=⟨gb222,1,none⟩) (Kd.R_far (p:=⟨gb222,0,none⟩) (Kd.R_mono HO_7.out (fun k_ hk => (⟨hk,hk.2⟩ : _ ∧ k_ ≠ gb222))) (fun _ hk => hk.2) (.string ((rd_T33 x7_1 x54_2).f0))) (fun _ hk => hk.2) (.int .i64 ((rd_T33 x7_1 x54_2).f1))) (fun _ hk => hk.2) (.bool false)) (fun _ hk => hk.2) (.int .i64 ((rd_T33 x7_1 x54_2).f3))) (fun _ hk => ⟨hk.1.1,hk.1.2⟩)⟩
                 have n1_ : Aside0 (Kd.R k33 33 ((((w84.setCell ⟨gb222,0,none⟩ (.string ((rd_T33 x7_1 x54_2).f0))).setCell ⟨gb222,1,none⟩ (.int .i64 ((rd_T33 x7_1 x54_2).f1))).setCell ⟨gb222,2,none⟩ (.bool false)).setCell ⟨gb222,3,none⟩ (.int .i64 ((rd_T33 x7_1 x54_2).f3))) w.heap.size (fun k_ => some k_ ≠ (.slice (some ad221) x7_1.length co44 : Value).ownBlock ∧ some k_ ≠ (.slice (some ad221) x7_1.length co44 : Value).ownBlock ∧ k_ ≠ gb222) u10 x10_2):=⟨by (with_reducible repeat (first | apply Kd.R_alloc | apply Kd.R_drewN | apply Kd.R_drew));exact Kd.R_mono (Kd.R_far (p:=⟨gb222,3,none⟩) (Kd.R_far (p:=⟨gb222,2,none⟩) (Kd.R_far (p:=⟨gb222,1,none⟩) (Kd.R_far (p:=⟨gb222,0,none⟩) (Kd.R_mono HO_10.out (fun k_ hk => (⟨hk,hk.2⟩ : _ ∧ k_ ≠ gb222))) (fun _ hk => hk.2) (.string ((rd_T33 x7_1 x54_2).f0))) (fun _ hk => hk.2) (.int .i64 ((rd_T33 x7_1 x54_2).f1))) (fun _ hk => hk.2) (.bool false)) (fun _ hk => hk.2) (.int .i64 ((rd_T33 x7_1 x54_2).f3))) (fun _ hk => ⟨hk.1.1.1,⟨hk.1.1.2,hk.1.2⟩⟩)⟩
                 have n2_ : Aside0 (Kd.R k33 33 ((((w84.setCell ⟨gb222,0,none⟩ (.string ((rd_T33 x7_1 x54_2).f0))).setCell ⟨gb222,1,none⟩ (.int .i64 ((rd_T33 x7_1 x54_2).f1))).setCell ⟨gb222,2,none⟩ (.bool false)).setCell ⟨gb222,3,none⟩ (.int .i64 ((rd_T33 x7_1 x54_2).f3))) w.heap.size (fun k_ => some k_ ≠ (u10 : Value).ownBlock ∧ k_ ≠ gb222) (.slice (some ad221) x7_1.length co44) x7_1):=⟨by (with_reducible repeat (first | apply Kd.R_alloc | apply Kd.R_drewN | apply Kd.R_drew));exact Kd.R_mono (Kd.R_far (p:=⟨gb222,3,none⟩) (Kd.R_far (p:=⟨gb222,2,none⟩) (Kd.R_far (p:=⟨gb222,1,none⟩) (Kd.R_far (p:=⟨gb222,0,none⟩) (Kd.R_mono HO_52.out (fun k_ hk => (⟨hk,hk.2⟩ : _ ∧ k_ ≠ gb222))) (fun _ hk => hk.2) (.string ((rd_T33 x7_1 x54_2).f0))) (fun _ hk => hk.2) (.int .i64 ((rd_T33 x7_1 x54_2).f1))) (fun _ hk => hk.2) (.bool false)) (fun _ hk => hk.2) (.int .i64 ((rd_T33 x7_1 x54_2).f3))) (fun _ hk => ⟨hk.1.1,hk.1.2⟩)⟩
                 have n3_ : Aside0 (((((w84.setCell ⟨gb222,0,none⟩ (.string ((rd_T33 x7_1 x54_2).f0))).setCell ⟨gb222,1,none⟩ (.int .i64 ((rd_T33 x7_1 x54_2).f1))).setCell ⟨gb222,2,none⟩ (.bool false)).setCell ⟨gb222,3,none⟩ (.int .i64 ((rd_T33 x7_1 x54_2).f3))).heap[gb222]? = some (.cells #[.string ((rd_T33 x7_1 x54_2).f0),.int .i64 ((rd_T33 x7_1 x54_2).f1),.bool false,.int .i64 ((rd_T33 x7_1 x54_2).f3)] 33 (0,0))):=⟨by (with_reducible repeat (first | refine blk_drewN ?_ _ | refine blk_drew ?_ | refine blk_alloc ?_ _));refine blk_put (cs:=#[.string ((rd_T33 x7_1 x54_2).f0),.int .i64 ((rd_T33 x7_1 x54_2).f1),.bool false,.int .i64 0]) ?_ 3 _ rfl;(with_reducible repeat (first | refine blk_drewN ?_ _ | refine blk_drew ?_ | refine blk_alloc ?_ _));refine blk_put (cs:=#[.string ((rd_T33 x7_1 x54_2).f0),.int .i64 ((rd_T33 x7_1 x54_2).f1),.bool false,.int .i64 0]) ?_ 2 _ rfl;(with_reducible repeat (first | refine blk_drewN ?_ _ | refine blk_drew ?_ | refine blk_alloc ?_ _));refine blk_put (cs:=#[.string ((rd_T33 x7_1 x54_2).f0),.int .i64 0,.bool false,.int .i64 0]) ?_ 1 _ rfl;(with_reducible repeat (first | refine blk_drewN ?_ _ | refine blk_drew ?_ | refine blk_alloc ?_ _));refine blk_put (cs:=#[.string (⟨#[]⟩ : ByteArray),.int .i64 0,.bool false,.int .i64 0]) ?_ 0 _ rfl;(with_reducible repeat (first | refine blk_drewN ?_ _ | refine blk_drew ?_ | refine blk_alloc ?_ _));exact BK222.out⟩
                 have n4_ : Aside0 (Below w.heap.size w ((((w84.setCell ⟨gb222,0,none⟩ (.string ((rd_T33 x7_1 x54_2).f0))).setCell ⟨gb222,1,none⟩ (.int .i64 ((rd_T33 x7_1 x54_2).f1))).setCell ⟨gb222,2,none⟩ (.bool false)).setCell ⟨gb222,3,none⟩ (.int .i64 ((rd_T33 x7_1 x54_2).f3)))):=⟨by repeat (first | (with_reducible first | exact HB.out | apply below_alloc | apply pw_below_drewN | apply below_drew1 | refine below_set ?_ GE222.out) | exact HB.out)⟩
                 (try clear HO_7)
                 (try clear HO_10)
                 (try clear HO_52)
                 (try clear BK222)
                 (try clear HB)
                 generalize ((((w84.setCell ⟨gb222,0,none⟩ (.string ((rd_T33 x7_1 x54_2).f0))).setCell ⟨gb222,1,none⟩ (.int .i64 ((rd_T33 x7_1 x54_2).f1))).setCell ⟨gb222,2,none⟩ (.bool false)).setCell ⟨gb222,3,none⟩ (.int .i64 ((rd_T33 x7_1 x54_2).f3))) = w86 at n0_ n1_ n2_ n3_ n4_ ⊢
                 have HO_7:=n0_
                 have HO_10:=n1_
                 have HO_52:=n2_
                 have BK222:=n3_
                 have HB:=n4_
                 clear n0_ n1_ n2_ n3_ n4_
                 have n0_:=Aside0.mk (Kd.R_drew HO_7.out)
                 have n1_:=Aside0.mk (Kd.R_drew HO_10.out)
                 have n2_:=Aside0.mk (Kd.R_drew HO_52.out)
                 have n3_:=Aside0.mk (blk_drew BK222.out)
                 have n4_:=Aside0.mk (below_drew1 HB.out)
                 clear HO_7
                 clear HO_10
                 clear HO_52
                 clear BK222
                 clear HB
                 have HO_7:=n0_
                 have HO_10:=n1_
                 have HO_52:=n2_
                 have BK222:=n3_
                 have HB:=n4_
                 clear n0_ n1_ n2_ n3_ n4_
                 have p229 : 0 ≤ ((ji71) : Int):=of_decide_eq_true (by first | (with_reducible assumption) | assumption)
                 have q229 : (ji71) < (x7_1.length : Int):=of_decide_eq_true (by first | (with_reducible assumption) | assumption)
                 obtain ⟨ad229,e229,hx229_0,hx229_1,hx229_2,hx229_3⟩:=at_T33 (Kd.R_reads' HO_7.out).2.2 (ji71) p229 q229
                 (try rw [← Nbq76.out] at hx229_2)
                 obtain rfl : ad221 = ad229:=(by injection e229)
                 replace p229:=eq_true p229
                 replace q229:=eq_true q229
                 refine start_ (n:=17) (S:=fun w' => w'.cell? ⟨gb222,0,none⟩ = some (.string ((rd_T33 x7_1 x54_2).f0)) ∧ w'.cell? ⟨gb222,1,none⟩ = some (.int .i64 ((rd_T33 x7_1 x54_2).f1)) ∧ w'.cell? ⟨gb222,2,none⟩ = some (.bool false) ∧ w'.cell? ⟨gb222,3,none⟩ = some (.int .i64 ((rd_T33 x7_1 x54_2).f3)) ∧ w'.cell? (ad221.add (((ji71)).toNat * 4)) = some (.string ((rd_T33 x7_1 (ji71)).f0)) ∧ w'.cell? ⟨(ad221.add (((ji71)).toNat * 4)).block,(ad221.add (((ji71)).toNat * 4)).off + 1,none⟩ = some (.int .i64 ((rd_T33 x7_1 (ji71)).f1)) ∧ w'.cell? ⟨(ad221.add (((ji71)).toNat * 4)).block,(ad221.add (((ji71)).toNat * 4)).off + 2,none⟩ = some (.bool ((rd_T33 x7_1 (ji71)).f2)) ∧ w'.cell? ⟨(ad221.add (((ji71)).toNat * 4)).block,(ad221.add (((ji71)).toNat * 4)).off + 3,none⟩ = some (.int .i64 ((rd_T33 x7_1 (ji71)).f3))) (ds:=[]) #[false,false,false,false,false,false,false,false,false,false,false,false,false,false,false,false,false] (by kernel_rfl) rfl rfl ⟨(blk_cell BK222.out 0).trans rfl,(blk_cell BK222.out 1).trans rfl,(blk_cell BK222.out 2).trans rfl,(blk_cell BK222.out 3).trans rfl,hx229_0,hx229_1,hx229_2,hx229_3⟩ (fun hHeld => ?_);refine with_tabW impl_RunTrim.tab14 impl_RunTrim.bits14 (fun HT_ HW_ => ?_)
                 generalize w86.drew = w87 at HO_7 HO_10 HO_52 BK222 HB hx229_0 hx229_1 hx229_2 hx229_3 hHeld ⊢
                 refine pure_ (i:=0) (N:=some 59) (v:=?_) (a':=?_) #[true,false,false,false,false,false,false,false,false,false,false,false,false,false,false,false,false] rfl rfl (any_of HT_.out (by kernel_rfl)) (fun _ _ _ h => h) (Or.inl ⟨by rfl,?_⟩) ?_ ?_
                 rotate_left
                 ·intro w'
                  go_simp
                  with_reducible rfl
                 rotate_left
                 ·simp only [Act.put,List.setIfInBounds_toArray,List.set_cons_zero,List.set_cons_succ,i64_w,i32_w]
                  rfl
                 refine pure_ (i:=1) (N:=some 60) (v:=?_) (a':=?_) #[true,true,false,false,false,false,false,false,false,false,false,false,false,false,false,false,false] rfl rfl (any_of HT_.out (by kernel_rfl)) (fun _ _ _ h => h) (Or.inl ⟨by rfl,?_⟩) ?_ ?_
                 rotate_left
                 ·intro w'
                  go_simp
                  with_reducible rfl
                 rotate_left
                 ·simp only [Act.put,List.setIfInBounds_toArray,List.set_cons_zero,List.set_cons_succ,i64_w,i32_w]
                  rfl
                 refine pure_ (i:=2) (N:=some 61) (v:=?_) (a':=?_) #[true,true,true,false,false,false,false,false,false,false,false,false,false,false,false,false,false] rfl rfl (any_of HT_.out (by kernel_rfl)) (fun _ _ _ h => h) (Or.inl ⟨by rfl,?_⟩) ?_ ?_
                 rotate_left
                 ·intro w'
                  go_simp
                  with_reducible rfl
                 rotate_left
                 ·simp only [Act.put,List.setIfInBounds_toArray,List.set_cons_zero,List.set_cons_succ,i64_w,i32_w]
                  rfl
                 refine pure_ (i:=3) (N:=some 62) (v:=?_) (a':=?_) #[true,true,true,true,false,false,false,false,false,false,false,false,false,false,false,false,false] rfl rfl (any_of HT_.out (by kernel_rfl)) (fun _ _ _ h => h) (Or.inl ⟨by rfl,?_⟩) ?_ ?_
                 rotate_left
                 ·intro w'
                  go_simp
                  with_reducible rfl
                 rotate_left
                 ·simp only [Act.put,List.setIfInBounds_toArray,List.set_cons_zero,List.set_cons_succ,i64_w,i32_w]
                  rfl
                 refine pure_ (i:=4) (N:=some 63) (v:=?_) (a':=?_) #[true,true,true,true,true,false,false,false,false,false,false,false,false,false,false,false,false] rfl rfl (any_of HT_.out (by kernel_rfl)) (fun _ _ _ h => h) (Or.inl ⟨by rfl,?_⟩) ?_ ?_
                 rotate_left
                 ·intro w'
                  go_simp
                  with_reducible rfl
                 rotate_left
                 ·simp only [Act.put,List.setIfInBounds_toArray,List.set_cons_zero,List.set_cons_succ,i64_w,i32_w]
                  rfl
                 refine pure_ (i:=5) (N:=some 64) (v:=?_) (a':=?_) #[true,true,true,true,true,true,false,false,false,false,false,false,false,false,false,false,false] rfl rfl (any_of HT_.out (by kernel_rfl)) (fun _ _ _ h => h) (Or.inl ⟨by rfl,?_⟩) ?_ ?_
                 rotate_left
                 ·intro w'
                  go_simp
                  with_reducible rfl
                 rotate_left
                 ·simp only [Act.put,List.setIfInBounds_toArray,List.set_cons_zero,List.set_cons_succ,i64_w,i32_w]
                  rfl
                 refine pure_ (i:=6) (N:=some 65) (v:=?_) (a':=?_) #[true,true,true,true,true,true,true,false,false,false,false,false,false,false,false,false,false] rfl rfl (any_of HT_.out (by kernel_rfl)) (fun _ _ _ h => h) (Or.inl ⟨by rfl,?_⟩) ?_ ?_
                 rotate_left
                 ·intro w'
                  go_simp
                  with_reducible rfl
                 rotate_left
                 ·simp only [Act.put,List.setIfInBounds_toArray,List.set_cons_zero,List.set_cons_succ,i64_w,i32_w]
                  rfl
                 refine pure_ (i:=7) (N:=some 66) (v:=?_) (a':=?_) #[true,true,true,true,true,true,true,true,false,false,false,false,false,false,false,false,false] rfl rfl (any_of HT_.out (by kernel_rfl)) (fun _ _ _ h => h) (Or.inl ⟨by rfl,?_⟩) ?_ ?_
                 rotate_left
                 ·intro w'
                  go_simp
                  with_reducible rfl
                 rotate_left
                 ·simp only [Act.put,List.setIfInBounds_toArray,List.set_cons_zero,List.set_cons_succ,i64_w,i32_w]
                  rfl
                 refine pure_ (i:=8) (N:=some 67) (v:=?_) (a':=?_) #[true,true,true,true,true,true,true,true,true,false,false,false,false,false,false,false,false] rfl rfl (any_of HT_.out (by kernel_rfl)) (fun _ _ _ h => h) (Or.inl ⟨by rfl,?_⟩) ?_ ?_
                 rotate_left
                 ·intro w'
                  go_simp
                  with_reducible rfl
                 rotate_left
                 ·simp only [Act.put,List.setIfInBounds_toArray,List.set_cons_zero,List.set_cons_succ,i64_w,i32_w]
                  rfl
                 refine pure_ (i:=9) (N:=some 68) (v:=?_) (a':=?_) #[true,true,true,true,true,true,true,true,true,true,false,false,false,false,false,false,false] rfl rfl (any_of HT_.out (by kernel_rfl)) (fun _ _ _ h => h) (Or.inl ⟨by rfl,?_⟩) ?_ ?_
                 rotate_left
                 ·intro w'
                  go_simp
                  with_reducible rfl
                 rotate_left
                 ·simp only [Act.put,List.setIfInBounds_toArray,List.set_cons_zero,List.set_cons_succ,i64_w,i32_w]
                  rfl
                 refine pure_ (i:=10) (N:=some 69) (v:=?_) (a':=?_) #[true,true,true,true,true,true,true,true,true,true,true,false,false,false,false,false,false] rfl rfl (any_of HT_.out (by kernel_rfl)) (fun _ _ _ h => h) (Or.inl ⟨by rfl,?_⟩) ?_ ?_
                 rotate_left
                 ·intro w'
                  go_simp
                  with_reducible rfl
                 rotate_left
                 ·simp only [Act.put,List.setIfInBounds_toArray,List.set_cons_zero,List.set_cons_succ,i64_w,i32_w]
                  rfl
                 refine pure_ (i:=12) (N:=some 71) (v:=?_) (a':=?_) #[true,true,true,true,true,true,true,true,true,true,true,false,true,false,false,false,false] rfl rfl (any_of HT_.out (by kernel_rfl)) (fun _ _ _ h => h) (Or.inl ⟨by rfl,?_⟩) ?_ ?_
                 rotate_left
                 ·intro w'
                  go_simp
                  with_reducible rfl
                 rotate_left
                 ·simp only [Act.put,List.setIfInBounds_toArray,List.set_cons_zero,List.set_cons_succ,i64_w,i32_w]
                  rfl
                 refine take_ (i:=11) (N:=some 70) (v:=?_) (a':=?_) #[true,true,true,true,true,true,true,true,true,true,true,true,true,false,false,false,false] rfl rfl (take_ofW HT_.out HW_.out (by kernel_rfl)) (fun _ _ _ h => h) (Or.inl ⟨by rfl,?_⟩) hHeld ?_ ?_
                 rotate_left
                 ·rintro w' ⟨s0,s1,s2,s3,s4,s5,s6,s7⟩
                  go_simp
                  with_reducible rfl
                 rotate_left
                 ·simp only [Act.put,List.setIfInBounds_toArray,List.set_cons_zero,List.set_cons_succ,i64_w,i32_w]
                  rfl
                 refine take_ (i:=13) (N:=some 72) (v:=?_) (a':=?_) #[true,true,true,true,true,true,true,true,true,true,true,true,true,true,false,false,false] rfl rfl (take_ofW HT_.out HW_.out (by kernel_rfl)) (fun _ _ _ h => h) (Or.inl ⟨by rfl,?_⟩) hHeld ?_ ?_
                 rotate_left
                 ·rintro w' ⟨s0,s1,s2,s3,s4,s5,s6,s7⟩
                  go_simp
                  with_reducible rfl
                 rotate_left
                 ·simp only [Act.put,List.setIfInBounds_toArray,List.set_cons_zero,List.set_cons_succ,i64_w,i32_w]
                  rfl
                 refine pure_ (i:=14) (N:=some 73) (v:=?_) (a':=?_) #[true,true,true,true,true,true,true,true,true,true,true,true,true,true,true,false,false] rfl rfl (any_of HT_.out (by kernel_rfl)) (fun _ _ _ h => h) (Or.inl ⟨by rfl,?_⟩) ?_ ?_
                 rotate_left
                 ·intro w'
                  go_simp
                  with_reducible rfl
                 rotate_left
                 ·simp only [Act.put,List.setIfInBounds_toArray,List.set_cons_zero,List.set_cons_succ,i64_w,i32_w]
                  rfl
                 refine pure_ (i:=15) (N:=some 74) (v:=?_) (a':=?_) #[true,true,true,true,true,true,true,true,true,true,true,true,true,true,true,true,false] rfl rfl (any_of HT_.out (by kernel_rfl)) (fun _ _ _ h => h) (Or.inl ⟨by rfl,?_⟩) ?_ ?_
                 rotate_left
                 ·intro w'
                  go_simp
                  with_reducible rfl
                 rotate_left
                 ·simp only [Act.put,List.setIfInBounds_toArray,List.set_cons_zero,List.set_cons_succ,i64_w,i32_w]
                  rfl
                 refine pure_ (i:=16) (N:=some 13) (v:=?_) (a':=?_) #[true,true,true,true,true,true,true,true,true,true,true,true,true,true,true,true,true] rfl rfl (any_of HT_.out (by kernel_rfl)) (fun _ _ _ h => h) (Or.inl ⟨by rfl,?_⟩) ?_ ?_
                 rotate_left
                 ·intro w'
                  go_simp
                  with_reducible rfl
                 rotate_left
                 ·simp only [Act.put,List.setIfInBounds_toArray,List.set_cons_zero,List.set_cons_succ,i64_w,i32_w]
                  rfl
                 refine done_ (done_of HT_.out (by kernel_rfl)) ?_
                 have hcz88_0 : w87.cell? ⟨gb222,0,none⟩ = some (.string ((rd_T33 x7_1 x54_2).f0)):=(blk_cell BK222.out 0).trans rfl
                 have hcz88_1 : w87.cell? ⟨gb222,1,none⟩ = some (.int .i64 ((rd_T33 x7_1 x54_2).f1)):=(blk_cell BK222.out 1).trans rfl
                 have hcz88_2 : w87.cell? ⟨gb222,2,none⟩ = some (.bool false):=(blk_cell BK222.out 2).trans rfl
                 have hcz88_3 : w87.cell? ⟨gb222,3,none⟩ = some (.int .i64 ((rd_T33 x7_1 x54_2).f3)):=(blk_cell BK222.out 3).trans rfl
                 have hfz88_0:=blk_frozen BK222.out 0
                 have hfz88_1:=blk_frozen BK222.out 1
                 have hfz88_2:=blk_frozen BK222.out 2
                 have hfz88_3:=blk_frozen BK222.out 3
                 try go_wp2_with (first | ((with_reducible refine gate_builtin (b:=.append) (xs:=#[.tmp 86,.tmp 88]) rfl ?_);at_builtin;refine Kd.R_append k33 (w0:=w) w.heap.size rfl (.tmp 86) (.tmp 88) 26 33 (.agg #[(.string ⟨#[]⟩),(.int .i64 0),(.bool false),(.int .i64 0)]) 40 rfl Try.underlying26 info33 rfl (by decide) (by omega) u10 x10_2 (⟨(rd_T33 x7_1 x54_2).f0,(rd_T33 x7_1 x54_2).f1,false,(rd_T33 x7_1 x54_2).f3⟩ : S33) [.string ((rd_T33 x7_1 x54_2).f0),.int .i64 ((rd_T33 x7_1 x54_2).f1),.bool false,.int .i64 ((rd_T33 x7_1 x54_2).f3)] (fun k_ => some k_ ≠ (.slice (some ad221) x7_1.length co44 : Value).ownBlock ∧ some k_ ≠ (.slice (some ad221) x7_1.length co44 : Value).ownBlock ∧ k_ ≠ gb222) (fun _ => False) rfl rfl ?aP (fun _ hk => hk.elim) ?aF ?aO ?aB ?aS ?aL ?_;(case aP => exact k33_mkM _ _ _ (⟨(rd_T33 x7_1 x54_2).f0,(rd_T33 x7_1 x54_2).f1,false,(rd_T33 x7_1 x54_2).f3⟩ : S33));(case aB => exact (by repeat (first | (with_reducible first | exact HB.out | apply below_alloc | apply pw_below_drewN | apply below_drew1 | refine below_set ?_ GE222.out) | exact HB.out)));(case aF => exact (fun k_ hk => ⟨Kd.fresh' (Kd.R_lt (by (with_reducible repeat (first | apply Kd.R_alloc | apply Kd.R_drewN | apply Kd.R_drew));exact HO_7.out)) k_ hk,Kd.fresh' (Kd.R_lt (by (with_reducible repeat (first | apply Kd.R_alloc | apply Kd.R_drewN | apply Kd.R_drew));exact HO_52.out)) k_ hk,Kd.freshB (g:=gb222) (o:=.cells #[.string ((rd_T33 x7_1 x54_2).f0),.int .i64 ((rd_T33 x7_1 x54_2).f1),.bool false,.int .i64 ((rd_T33 x7_1 x54_2).f3)] 33 (0,0)) (by (with_reducible repeat (first | refine blk_drewN ?_ _ | refine blk_drew ?_ | refine blk_alloc ?_ _));exact BK222.out) k_ hk⟩));(case aO => exact (by (with_reducible repeat (first | apply Kd.R_alloc | apply Kd.R_drewN | apply Kd.R_drew));exact HO_10.out));(case aS => exact (below_size (by repeat (first | (with_reducible first | exact HB.out | apply below_alloc | apply pw_below_drewN | apply below_drew1 | refine below_set ?_ GE222.out) | exact HB.out))));(case aL => have:=LMc83.out;omega);intro v231 w89 ho hb hg hat;rw [← Ny230.out] at ho;have n0_:=Aside0.mk (Kd.R_after (ok:=(fun k_ => k_ ≠ gb222)) (by (with_reducible repeat (first | apply Kd.R_alloc | apply Kd.R_drewN | apply Kd.R_drew));exact Kd.R_mono HO_7.out (fun _ hk => ⟨hk.2,hk.1⟩)) hg hat);have n1_:=Aside0.mk (Kd.R_after (ok:=(fun k_ => k_ ≠ gb222)) (by (with_reducible repeat (first | apply Kd.R_alloc | apply Kd.R_drewN | apply Kd.R_drew));exact Kd.R_mono HO_52.out (fun _ hk => ⟨hk.2,hk.1⟩)) hg hat);have n2_:=Aside0.mk (blk_grown (g:=gb222) (o:=.cells #[.string ((rd_T33 x7_1 x54_2).f0),.int .i64 ((rd_T33 x7_1 x54_2).f1),.bool false,.int .i64 ((rd_T33 x7_1 x54_2).f3)] 33 (0,0)) (by (with_reducible repeat (first | refine blk_drewN ?_ _ | refine blk_drew ?_ | refine blk_alloc ?_ _));exact BK222.out) hg (Kd.R_away HO_10.out (fun _ hk => hk.2.2)));have n3_:=Aside0.mk (hb);have n4_:=Aside0.mk (ho);clear HO_7;clear HO_52;clear BK222;clear HB;clear HO_10;have HO_7:=n0_;have HO_52:=n1_;have BK222:=n2_;have HB:=n3_;have HO232:=n4_;clear n0_ n1_ n2_ n3_ n4_;clear ho hb hg hat))
                 go_roundg k2
                 case measure => have:=HK1.out;have:=HK2.out;omega
                 case rel => exact ⟨(y230),(ji71),(by first | rfl | (simp;done) | (simp only [← hji71] <;> (first | rfl | simp)) | (simp [*];done)),H',⟨by have:=HK1.out;have:=HK2.out;omega⟩,⟨by (with_reducible repeat (first | apply Kd.R_alloc | apply Kd.R_drewN | apply Kd.R_drew));exact Kd.R_mono HO_7.out (fun _ hk => hk.2)⟩,⟨by (with_reducible repeat (first | apply Kd.R_alloc | apply Kd.R_drewN | apply Kd.R_drew));exact Kd.R_mono HO232.out (fun _ hk => ⟨hk.1,hk.2.1⟩)⟩,⟨by (with_reducible repeat (first | apply Kd.R_alloc | apply Kd.R_drewN | apply Kd.R_drew));exact Kd.R_mono HO_52.out (fun _ hk => hk.2)⟩,⟨by repeat (first | (with_reducible first | exact HB.out | apply below_alloc | apply pw_below_drewN | apply below_drew1 | refine below_set ?_ GE222.out) | exact HB.out)⟩⟩
                ·rw [if_neg c83] at H
                 exact absurd H (by simp)
              ·rw [if_neg c75] at H
               have c75b0 : (((rd_T33 x7_1 (ji71)).f0).toList == ((rd_T33 x7_1 x54_2).f0).toList) = true:=beq_iff_eq.mpr (Classical.not_not.1 c75)
               have c75b1 : (((rd_T33 x7_1 (ji71)).f0).toList != ((rd_T33 x7_1 x54_2).f0).toList) = false:=bne_eq_false_iff_eq.mpr (Classical.not_not.1 c75)
               by_cases c90 : x10_2.length < 3518437208883
               ·rw [if_pos c90] at H
                have LMc90:=Aside0.mk c90
                clear c90
                obtain ⟨y233,hy233⟩ : ∃ y_ : List (S33),y_ = (x10_2 ++ [(⟨(rd_T33 x7_1 x54_2).f0,(rd_T33 x7_1 x54_2).f1,(rd_T33 x7_1 x54_2).f2,(rd_T33 x7_1 x54_2).f3⟩ : S33)]):=⟨_,rfl⟩
                replace H : (impl_RunTrim.l1 k2 true x7_1 y233 x7_1 (x7_1.length : Int) ji71) = some r:=by first | (rw [hy233];with_reducible exact H) | (have H2_:=(Option.bind_some _ _).symm.trans H;rw [hy233];with_reducible exact H2_) | (have H2_:=(Option.bind_some _ _).symm.trans H;with_reducible exact H2_) | with_reducible exact H | (rw [hy233];exact H) | exact H
                have Ny233:=Aside0.mk hy233
                clear hy233
                have H':=Aside0.mk H
                clear H
                have p221 : 0 ≤ (x54_2 : Int):=of_decide_eq_true (by first | (with_reducible assumption) | assumption)
                have q221 : x54_2 < (x7_1.length : Int):=of_decide_eq_true (by first | (with_reducible assumption) | assumption)
                obtain ⟨ad221,e221,hx221_0,hx221_1,hx221_2,hx221_3⟩:=at_T33 (Kd.R_reads' HO_52.out).2.2 x54_2 p221 q221
                cases e221
                replace p221:=eq_true p221
                replace q221:=eq_true q221
                try go_wp2_with (first | ((with_reducible refine gate_dst (N:=12) rfl ?_);refine box_event ?hg (N:=12) ?hd (cs:=#[.string (⟨#[]⟩ : ByteArray),.int .i64 0,.bool false,.int .i64 0]) (t:=33) ?hr ?_;(case hd => rfl);(case hg => rfl);(case hr => first | (go_simp;done) | (go_simp;rfl));intro gb222 hg w91 hbox hb;have n0_:=Aside0.mk (Kd.R_below (Kd.R_elderB (by (with_reducible repeat (first | apply Kd.R_alloc | apply Kd.R_drewN | apply Kd.R_drew));exact HO_7.out) gb222 (Nat.le_of_eq hg.symm)) hb);have n1_:=Aside0.mk (Kd.R_below (Kd.R_elderB (by (with_reducible repeat (first | apply Kd.R_alloc | apply Kd.R_drewN | apply Kd.R_drew));exact HO_10.out) gb222 (Nat.le_of_eq hg.symm)) hb);have n2_:=Aside0.mk (Kd.R_below (Kd.R_elderB (by (with_reducible repeat (first | apply Kd.R_alloc | apply Kd.R_drewN | apply Kd.R_drew));exact HO_52.out) gb222 (Nat.le_of_eq hg.symm)) hb);have n3_:=Aside0.mk (below_step (by repeat (first | (with_reducible first | exact HB.out | apply below_alloc | apply pw_below_drewN | apply below_drew1) | exact HB.out)) hb);have n4_:=Aside0.mk (hbox);have n5_:=Aside0.mk ((by rw [hg];exact (below_size (by repeat (first | (with_reducible first | exact HB.out | apply below_alloc | apply pw_below_drewN | apply below_drew1) | exact HB.out))) : w.heap.size ≤ gb222));have n6_:=Aside0.mk ((by rw [hg];exact (below_size (by repeat (first | (with_reducible first | exact HB.out | apply below_alloc | apply pw_below_drewN | apply below_drew1) | exact HB.out))) : w.heap.size ≤ gb222));clear HO_7;clear HO_10;clear HO_52;clear HB;have HO_7:=n0_;have HO_10:=n1_;have HO_52:=n2_;have HB:=n3_;have BK222:=n4_;have GW222:=n5_;have GE222:=n6_;clear n0_ n1_ n2_ n3_ n4_ n5_ n6_;clear hb hbox hg;have hcz92_0 : w91.cell? ⟨gb222,0,none⟩ = some (.string (⟨#[]⟩ : ByteArray)):=(blk_cell BK222.out 0).trans rfl;have hcz92_1 : w91.cell? ⟨gb222,1,none⟩ = some (.int .i64 0):=(blk_cell BK222.out 1).trans rfl;have hcz92_2 : w91.cell? ⟨gb222,2,none⟩ = some (.bool false):=(blk_cell BK222.out 2).trans rfl;have hcz92_3 : w91.cell? ⟨gb222,3,none⟩ = some (.int .i64 0):=(blk_cell BK222.out 3).trans rfl;have hfz92_0:=blk_frozen BK222.out 0;have hfz92_1:=blk_frozen BK222.out 1;have hfz92_2:=blk_frozen BK222.out 2;have hfz92_3:=blk_frozen BK222.out 3))
                have n0_ : Aside0 (Kd.R k33 33 ((((w91.setCell ⟨gb222,0,none⟩ (.string ((rd_T33 x7_1 x54_2).f0))).setCell ⟨gb222,1,none⟩ (.int .i64 ((rd_T33 x7_1 x54_2).f1))).setCell ⟨gb222,2,none⟩ (.bool ((rd_T33 x7_1 x54_2).f2))).setCell ⟨gb222,3,none⟩ (.int .i64 ((rd_T33 x7_1 x54_2).f3))) w.heap.size (fun k_ => some k_ ≠ (u10 : Value).ownBlock ∧ k_ ≠ gb222) (.slice (some ad221) x7_1.length co44) x7_1):=⟨by (with_reducible repeat (first | apply Kd.R_alloc | apply Kd.R_drewN | apply Kd.R_drew));exact Kd.R_mono (Kd.R_far (p:=⟨gb222,3,none⟩) (Kd.R_far (p:=⟨gb222,2,none⟩) (Kd.R_far (p:=⟨gb222,1,none⟩) (Kd.R_far (p:=⟨gb222,0,none⟩) (Kd.R_mono HO_7.out (fun k_ hk => (⟨hk,hk.2⟩ : _ ∧ k_ ≠ gb222))) (fun _ hk => hk.2) (.string ((rd_T33 x7_1 x54_2).f0))) (fun _ hk => hk.2) (.int .i64 ((rd_T33 x7_1 x54_2).f1))) (fun _ hk => hk.2) (.bool ((rd_T33 x7_1 x54_2).f2))) (fun _ hk => hk.2) (.int .i64 ((rd_T33 x7_1 x54_2).f3))) (fun _ hk => ⟨hk.1.1,hk.1.2⟩)⟩
                have n1_ : Aside0 (Kd.R k33 33 ((((w91.setCell ⟨gb222,0,none⟩ (.string ((rd_T33 x7_1 x54_2).f0))).setCell ⟨gb222,1,none⟩ (.int .i64 ((rd_T33 x7_1 x54_2).f1))).setCell ⟨gb222,2,none⟩ (.bool ((rd_T33 x7_1 x54_2).f2))).setCell ⟨gb222,3,none⟩ (.int .i64 ((rd_T33 x7_1 x54_2).f3))) w.heap.size (fun k_ => some k_ ≠ (.slice (some ad221) x7_1.length co44 : Value).ownBlock ∧ some k_ ≠ (.slice (some ad221) x7_1.length co44 : Value).ownBlock ∧ k_ ≠ gb222) u10 x10_2):=⟨by (with_reducible repeat (first | apply Kd.R_alloc | apply Kd.R_drewN | apply Kd.R_drew));exact Kd.R_mono (Kd.R_far (p:=⟨gb222,3,none⟩) (Kd.R_far (p:=⟨gb222,2,none⟩) (Kd.R_far (p:=⟨gb222,1,none⟩) (Kd.R_far (p:=⟨gb222,0,none⟩) (Kd.R_mono HO_10.out (fun k_ hk => (⟨hk,hk.2⟩ : _ ∧ k_ ≠ gb222))) (fun _ hk => hk.2) (.string ((rd_T33 x7_1 x54_2).f0))) (fun _ hk => hk.2) (.int .i64 ((rd_T33 x7_1 x54_2).f1))) (fun _ hk => hk.2) (.bool ((rd_T33 x7_1 x54_2).f2))) (fun _ hk => hk.2) (.int .i64 ((rd_T33 x7_1 x54_2).f3))) (fun _ hk => ⟨hk.1.1.1,⟨hk.1.1.2,hk.1.2⟩⟩)⟩
                have n2_ : Aside0 (Kd.R k33 33 ((((w91.setCell ⟨gb222,0,none⟩ (.string ((rd_T33 x7_1 x54_2).f0))).setCell ⟨gb222,1,none⟩ (.int .i64 ((rd_T33 x7_1 x54_2).f1))).setCell ⟨gb222,2,none⟩ (.bool ((rd_T33 x7_1 x54_2).f2))).setCell ⟨gb222,3,none⟩ (.int .i64 ((rd_T33 x7_1 x54_2).f3))) w.heap.size (fun k_ => some k_ ≠ (u10 : Value).ownBlock ∧ k_ ≠ gb222) (.slice (some ad221) x7_1.length co44) x7_1):=⟨by (with_reducible repeat (first | apply Kd.R_alloc | apply Kd.R_drewN | apply Kd.R_drew));exact Kd.R_mono (Kd.R_far (p:=⟨gb222,3,none⟩) (Kd.R_far (p:=⟨gb222,2,none⟩) (Kd.R_far (p:=⟨gb222,1,none⟩) (Kd.R_far (p:=⟨gb222,0,none⟩) (Kd.R_mono HO_52.out (fun k_ hk => (⟨hk,hk.2⟩ : _ ∧ k_ ≠ gb222))) (fun _ hk => hk.2) (.string ((rd_T33 x7_1 x54_2).f0))) (fun _ hk => hk.2) (.int .i64 ((rd_T33 x7_1 x54_2).f1))) (fun _ hk => hk.2) (.bool ((rd_T33 x7_1 x54_2).f2))) (fun _ hk => hk.2) (.int .i64 ((rd_T33 x7_1 x54_2).f3))) (fun _ hk => ⟨hk.1.1,hk.1.2⟩)⟩
                have n3_ : Aside0 (((((w91.setCell ⟨gb222,0,none⟩ (.string ((rd_T33 x7_1 x54_2).f0))).setCell ⟨gb222,1,none⟩ (.int .i64 ((rd_T33 x7_1 x54_2).f1))).setCell ⟨gb222,2,none⟩ (.bool ((rd_T33 x7_1 x54_2).f2))).setCell ⟨gb222,3,none⟩ (.int .i64 ((rd_T33 x7_1 x54_2).f3))).heap[gb222]? = some (.cells #[.string ((rd_T33 x7_1 x54_2).f0),.int .i64 ((rd_T33 x7_1 x54_2).f1),.bool ((rd_T33 x7_1 x54_2).f2),.int .i64 ((rd_T33 x7_1 x54_2).f3)] 33 (0,0))):=⟨by (with_reducible repeat (first | refine blk_drewN ?_ _ | refine blk_drew ?_ | refine blk_alloc ?_ _));refine blk_put (cs:=#[.string ((rd_T33 x7_1 x54_2).f0),.int .i64 ((rd_T33 x7_1 x54_2).f1),.bool ((rd_T33 x7_1 x54_2).f2),.int .i64 0]) ?_ 3 _ rfl;(with_reducible repeat (first | refine blk_drewN ?_ _ | refine blk_drew ?_ | refine blk_alloc ?_ _));refine blk_put (cs:=#[.string ((rd_T33 x7_1 x54_2).f0),.int .i64 ((rd_T33 x7_1 x54_2).f1),.bool false,.int .i64 0]) ?_ 2 _ rfl;(with_reducible repeat (first | refine blk_drewN ?_ _ | refine blk_drew ?_ | refine blk_alloc ?_ _));refine blk_put (cs:=#[.string ((rd_T33 x7_1 x54_2).f0),.int .i64 0,.bool false,.int .i64 0]) ?_ 1 _ rfl;(with_reducible repeat (first | refine blk_drewN ?_ _ | refine blk_drew ?_ | refine blk_alloc ?_ _));refine blk_put (cs:=#[.string (⟨#[]⟩ : ByteArray),.int .i64 0,.bool false,.int .i64 0]) ?_ 0 _ rfl;(with_reducible repeat (first | refine blk_drewN ?_ _ | refine blk_drew ?_ | refine blk_alloc ?_ _));exact BK222.out⟩
                have n4_ : Aside0 (Below w.heap.size w ((((w91.setCell ⟨gb222,0,none⟩ (.string ((rd_T33 x7_1 x54_2).f0))).setCell ⟨gb222,1,none⟩ (.int .i64 ((rd_T33 x7_1 x54_2).f1))).setCell ⟨gb222,2,none⟩ (.bool ((rd_T33 x7_1 x54_2).f2))).setCell ⟨gb222,3,none⟩ (.int .i64 ((rd_T33 x7_1 x54_2).f3)))):=⟨by repeat (first | (with_reducible first | exact HB.out | apply below_alloc | apply pw_below_drewN | apply below_drew1 | refine below_set ?_ GE222.out) | exact HB.out)⟩
                (try clear HO_7)
                (try clear HO_10)
                (try clear HO_52)
                (try clear BK222)
                (try clear HB)
                generalize ((((w91.setCell ⟨gb222,0,none⟩ (.string ((rd_T33 x7_1 x54_2).f0))).setCell ⟨gb222,1,none⟩ (.int .i64 ((rd_T33 x7_1 x54_2).f1))).setCell ⟨gb222,2,none⟩ (.bool ((rd_T33 x7_1 x54_2).f2))).setCell ⟨gb222,3,none⟩ (.int .i64 ((rd_T33 x7_1 x54_2).f3))) = w93 at n0_ n1_ n2_ n3_ n4_ ⊢
                have HO_7:=n0_
                have HO_10:=n1_
                have HO_52:=n2_
                have BK222:=n3_
                have HB:=n4_
                clear n0_ n1_ n2_ n3_ n4_
                have n0_:=Aside0.mk (Kd.R_drew HO_7.out)
                have n1_:=Aside0.mk (Kd.R_drew HO_10.out)
                have n2_:=Aside0.mk (Kd.R_drew HO_52.out)
                have n3_:=Aside0.mk (blk_drew BK222.out)
                have n4_:=Aside0.mk (below_drew1 HB.out)
                clear HO_7
                clear HO_10
                clear HO_52
                clear BK222
                clear HB
                have HO_7:=n0_
                have HO_10:=n1_
                have HO_52:=n2_
                have BK222:=n3_
                have HB:=n4_
                clear n0_ n1_ n2_ n3_ n4_
                have p229 : 0 ≤ ((ji71) : Int):=of_decide_eq_true (by first | (with_reducible assumption) | assumption)
                have q229 : (ji71) < (x7_1.length : Int):=of_decide_eq_true (by first | (with_reducible assumption) | assumption)
                obtain ⟨ad229,e229,hx229_0,hx229_1,hx229_2,hx229_3⟩:=at_T33 (Kd.R_reads' HO_7.out).2.2 (ji71) p229 q229
                obtain rfl : ad221 = ad229:=(by injection e229)
                replace p229:=eq_true p229
                replace q229:=eq_true q229
                refine start_ (n:=17) (S:=fun w' => w'.cell? ⟨gb222,0,none⟩ = some (.string ((rd_T33 x7_1 x54_2).f0)) ∧ w'.cell? ⟨gb222,1,none⟩ = some (.int .i64 ((rd_T33 x7_1 x54_2).f1)) ∧ w'.cell? ⟨gb222,2,none⟩ = some (.bool ((rd_T33 x7_1 x54_2).f2)) ∧ w'.cell? ⟨gb222,3,none⟩ = some (.int .i64 ((rd_T33 x7_1 x54_2).f3)) ∧ w'.cell? (ad221.add (((ji71)).toNat * 4)) = some (.string ((rd_T33 x7_1 (ji71)).f0)) ∧ w'.cell? ⟨(ad221.add (((ji71)).toNat * 4)).block,(ad221.add (((ji71)).toNat * 4)).off + 1,none⟩ = some (.int .i64 ((rd_T33 x7_1 (ji71)).f1)) ∧ w'.cell? ⟨(ad221.add (((ji71)).toNat * 4)).block,(ad221.add (((ji71)).toNat * 4)).off + 2,none⟩ = some (.bool ((rd_T33 x7_1 (ji71)).f2)) ∧ w'.cell? ⟨(ad221.add (((ji71)).toNat * 4)).block,(ad221.add (((ji71)).toNat * 4)).off + 3,none⟩ = some (.int .i64 ((rd_T33 x7_1 (ji71)).f3))) (ds:=[]) #[false,false,false,false,false,false,false,false,false,false,false,false,false,false,false,false,false] (by kernel_rfl) rfl rfl ⟨(blk_cell BK222.out 0).trans rfl,(blk_cell BK222.out 1).trans rfl,(blk_cell BK222.out 2).trans rfl,(blk_cell BK222.out 3).trans rfl,hx229_0,hx229_1,hx229_2,hx229_3⟩ (fun hHeld => ?_);refine with_tabW impl_RunTrim.tab14 impl_RunTrim.bits14 (fun HT_ HW_ => ?_)
                generalize w93.drew = w94 at HO_7 HO_10 HO_52 BK222 HB hx229_0 hx229_1 hx229_2 hx229_3 hHeld ⊢
                refine pure_ (i:=0) (N:=some 59) (v:=?_) (a':=?_) #[true,false,false,false,false,false,false,false,false,false,false,false,false,false,false,false,false] rfl rfl (any_of HT_.out (by kernel_rfl)) (fun _ _ _ h => h) (Or.inl ⟨by rfl,?_⟩) ?_ ?_
                rotate_left
                ·intro w'
                 go_simp
                 with_reducible rfl
                rotate_left
                ·simp only [Act.put,List.setIfInBounds_toArray,List.set_cons_zero,List.set_cons_succ,i64_w,i32_w]
                 rfl
                refine pure_ (i:=1) (N:=some 60) (v:=?_) (a':=?_) #[true,true,false,false,false,false,false,false,false,false,false,false,false,false,false,false,false] rfl rfl (any_of HT_.out (by kernel_rfl)) (fun _ _ _ h => h) (Or.inl ⟨by rfl,?_⟩) ?_ ?_
                rotate_left
                ·intro w'
                 go_simp
                 with_reducible rfl
                rotate_left
                ·simp only [Act.put,List.setIfInBounds_toArray,List.set_cons_zero,List.set_cons_succ,i64_w,i32_w]
                 rfl
                refine pure_ (i:=2) (N:=some 61) (v:=?_) (a':=?_) #[true,true,true,false,false,false,false,false,false,false,false,false,false,false,false,false,false] rfl rfl (any_of HT_.out (by kernel_rfl)) (fun _ _ _ h => h) (Or.inl ⟨by rfl,?_⟩) ?_ ?_
                rotate_left
                ·intro w'
                 go_simp
                 with_reducible rfl
                rotate_left
                ·simp only [Act.put,List.setIfInBounds_toArray,List.set_cons_zero,List.set_cons_succ,i64_w,i32_w]
                 rfl
                refine pure_ (i:=3) (N:=some 62) (v:=?_) (a':=?_) #[true,true,true,true,false,false,false,false,false,false,false,false,false,false,false,false,false] rfl rfl (any_of HT_.out (by kernel_rfl)) (fun _ _ _ h => h) (Or.inl ⟨by rfl,?_⟩) ?_ ?_
                rotate_left
                ·intro w'
                 go_simp
                 with_reducible rfl
                rotate_left
                ·simp only [Act.put,List.setIfInBounds_toArray,List.set_cons_zero,List.set_cons_succ,i64_w,i32_w]
                 rfl
                refine pure_ (i:=4) (N:=some 63) (v:=?_) (a':=?_) #[true,true,true,true,true,false,false,false,false,false,false,false,false,false,false,false,false] rfl rfl (any_of HT_.out (by kernel_rfl)) (fun _ _ _ h => h) (Or.inl ⟨by rfl,?_⟩) ?_ ?_
                rotate_left
                ·intro w'
                 go_simp
                 with_reducible rfl
                rotate_left
                ·simp only [Act.put,List.setIfInBounds_toArray,List.set_cons_zero,List.set_cons_succ,i64_w,i32_w]
                 rfl
                refine pure_ (i:=5) (N:=some 64) (v:=?_) (a':=?_) #[true,true,true,true,true,true,false,false,false,false,false,false,false,false,false,false,false] rfl rfl (any_of HT_.out (by kernel_rfl)) (fun _ _ _ h => h) (Or.inl ⟨by rfl,?_⟩) ?_ ?_
                rotate_left
                ·intro w'
                 go_simp
                 with_reducible rfl
                rotate_left
                ·simp only [Act.put,List.setIfInBounds_toArray,List.set_cons_zero,List.set_cons_succ,i64_w,i32_w]
                 rfl
                refine pure_ (i:=6) (N:=some 65) (v:=?_) (a':=?_) #[true,true,true,true,true,true,true,false,false,false,false,false,false,false,false,false,false] rfl rfl (any_of HT_.out (by kernel_rfl)) (fun _ _ _ h => h) (Or.inl ⟨by rfl,?_⟩) ?_ ?_
                rotate_left
                ·intro w'
                 go_simp
                 with_reducible rfl
                rotate_left
                ·simp only [Act.put,List.setIfInBounds_toArray,List.set_cons_zero,List.set_cons_succ,i64_w,i32_w]
                 rfl
                refine pure_ (i:=7) (N:=some 66) (v:=?_) (a':=?_) #[true,true,true,true,true,true,true,true,false,false,false,false,false,false,false,false,false] rfl rfl (any_of HT_.out (by kernel_rfl)) (fun _ _ _ h => h) (Or.inl ⟨by rfl,?_⟩) ?_ ?_
                rotate_left
                ·intro w'
                 go_simp
                 with_reducible rfl
                rotate_left
                ·simp only [Act.put,List.setIfInBounds_toArray,List.set_cons_zero,List.set_cons_succ,i64_w,i32_w]
                 rfl
                refine pure_ (i:=8) (N:=some 67) (v:=?_) (a':=?_) #[true,true,true,true,true,true,true,true,true,false,false,false,false,false,false,false,false] rfl rfl (any_of HT_.out (by kernel_rfl)) (fun _ _ _ h => h) (Or.inl ⟨by rfl,?_⟩) ?_ ?_
                rotate_left
                ·intro w'
                 go_simp
                 with_reducible rfl
                rotate_left
                ·simp only [Act.put,List.setIfInBounds_toArray,List.set_cons_zero,List.set_cons_succ,i64_w,i32_w]
                 rfl
                refine pure_ (i:=9) (N:=some 68) (v:=?_) (a':=?_) #[true,true,true,true,true,true,true,true,true,true,false,false,false,false,false,false,false] rfl rfl (any_of HT_.out (by kernel_rfl)) (fun _ _ _ h => h) (Or.inl ⟨by rfl,?_⟩) ?_ ?_
                rotate_left
                ·intro w'
                 go_simp
                 with_reducible rfl
                rotate_left
                ·simp only [Act.put,List.setIfInBounds_toArray,List.set_cons_zero,List.set_cons_succ,i64_w,i32_w]
                 rfl
                refine pure_ (i:=10) (N:=some 69) (v:=?_) (a':=?_) #[true,true,true,true,true,true,true,true,true,true,true,false,false,false,false,false,false] rfl rfl (any_of HT_.out (by kernel_rfl)) (fun _ _ _ h => h) (Or.inl ⟨by rfl,?_⟩) ?_ ?_
                rotate_left
                ·intro w'
                 go_simp
                 with_reducible rfl
                rotate_left
                ·simp only [Act.put,List.setIfInBounds_toArray,List.set_cons_zero,List.set_cons_succ,i64_w,i32_w]
                 rfl
                refine pure_ (i:=12) (N:=some 71) (v:=?_) (a':=?_) #[true,true,true,true,true,true,true,true,true,true,true,false,true,false,false,false,false] rfl rfl (any_of HT_.out (by kernel_rfl)) (fun _ _ _ h => h) (Or.inl ⟨by rfl,?_⟩) ?_ ?_
                rotate_left
                ·intro w'
                 go_simp
                 with_reducible rfl
                rotate_left
                ·simp only [Act.put,List.setIfInBounds_toArray,List.set_cons_zero,List.set_cons_succ,i64_w,i32_w]
                 rfl
                refine take_ (i:=11) (N:=some 70) (v:=?_) (a':=?_) #[true,true,true,true,true,true,true,true,true,true,true,true,true,false,false,false,false] rfl rfl (take_ofW HT_.out HW_.out (by kernel_rfl)) (fun _ _ _ h => h) (Or.inl ⟨by rfl,?_⟩) hHeld ?_ ?_
                rotate_left
                ·rintro w' ⟨s0,s1,s2,s3,s4,s5,s6,s7⟩
                 go_simp
                 with_reducible rfl
                rotate_left
                ·simp only [Act.put,List.setIfInBounds_toArray,List.set_cons_zero,List.set_cons_succ,i64_w,i32_w]
                 rfl
                refine take_ (i:=13) (N:=some 72) (v:=?_) (a':=?_) #[true,true,true,true,true,true,true,true,true,true,true,true,true,true,false,false,false] rfl rfl (take_ofW HT_.out HW_.out (by kernel_rfl)) (fun _ _ _ h => h) (Or.inl ⟨by rfl,?_⟩) hHeld ?_ ?_
                rotate_left
                ·rintro w' ⟨s0,s1,s2,s3,s4,s5,s6,s7⟩
                 go_simp
                 with_reducible rfl
                rotate_left
                ·simp only [Act.put,List.setIfInBounds_toArray,List.set_cons_zero,List.set_cons_succ,i64_w,i32_w]
                 rfl
                refine pure_ (i:=14) (N:=some 73) (v:=?_) (a':=?_) #[true,true,true,true,true,true,true,true,true,true,true,true,true,true,true,false,false] rfl rfl (any_of HT_.out (by kernel_rfl)) (fun _ _ _ h => h) (Or.inl ⟨by rfl,?_⟩) ?_ ?_
                rotate_left
                ·intro w'
                 go_simp
                 with_reducible rfl
                rotate_left
                ·simp only [Act.put,List.setIfInBounds_toArray,List.set_cons_zero,List.set_cons_succ,i64_w,i32_w]
                 rfl
                refine pure_ (i:=15) (N:=some 74) (v:=?_) (a':=?_) #[true,true,true,true,true,true,true,true,true,true,true,true,true,true,true,true,false] rfl rfl (any_of HT_.out (by kernel_rfl)) (fun _ _ _ h => h) (Or.inl ⟨by rfl,?_⟩) ?_ ?_
                rotate_left
                ·intro w'
                 go_simp
                 with_reducible rfl
                rotate_left
                ·simp only [Act.put,List.setIfInBounds_toArray,List.set_cons_zero,List.set_cons_succ,i64_w,i32_w]
                 rfl
                refine pure_ (i:=16) (N:=some 13) (v:=?_) (a':=?_) #[true,true,true,true,true,true,true,true,true,true,true,true,true,true,true,true,true] rfl rfl (any_of HT_.out (by kernel_rfl)) (fun _ _ _ h => h) (Or.inl ⟨by rfl,?_⟩) ?_ ?_
                rotate_left
                ·intro w'
                 go_simp
                 with_reducible rfl
                rotate_left
                ·simp only [Act.put,List.setIfInBounds_toArray,List.set_cons_zero,List.set_cons_succ,i64_w,i32_w]
                 rfl
                refine done_ (done_of HT_.out (by kernel_rfl)) ?_
                have hcz95_0 : w94.cell? ⟨gb222,0,none⟩ = some (.string ((rd_T33 x7_1 x54_2).f0)):=(blk_cell BK222.out 0).trans rfl
                have hcz95_1 : w94.cell? ⟨gb222,1,none⟩ = some (.int .i64 ((rd_T33 x7_1 x54_2).f1)):=(blk_cell BK222.out 1).trans rfl
                have hcz95_2 : w94.cell? ⟨gb222,2,none⟩ = some (.bool ((rd_T33 x7_1 x54_2).f2)):=(blk_cell BK222.out 2).trans rfl
                have hcz95_3 : w94.cell? ⟨gb222,3,none⟩ = some (.int .i64 ((rd_T33 x7_1 x54_2).f3)):=(blk_cell BK222.out 3).trans rfl
                have hfz95_0:=blk_frozen BK222.out 0
                have hfz95_1:=blk_frozen BK222.out 1
                have hfz95_2:=blk_frozen BK222.out 2
                have hfz95_3:=blk_frozen BK222.out 3
                try go_wp2_with (first | ((with_reducible refine gate_builtin (b:=.append) (xs:=#[.tmp 86,.tmp 88]) rfl ?_);at_builtin;refine Kd.R_append k33 (w0:=w) w.heap.size rfl (.tmp 86) (.tmp 88) 26 33 (.agg #[(.string ⟨#[]⟩),(.int .i64 0),(.bool false),(.int .i64 0)]) 40 rfl Try.underlying26 info33 rfl (by decide) (by omega) u10 x10_2 (⟨(rd_T33 x7_1 x54_2).f0,(rd_T33 x7_1 x54_2).f1,(rd_T33 x7_1 x54_2).f2,(rd_T33 x7_1 x54_2).f3⟩ : S33) [.string ((rd_T33 x7_1 x54_2).f0),.int .i64 ((rd_T33 x7_1 x54_2).f1),.bool ((rd_T33 x7_1 x54_2).f2),.int .i64 ((rd_T33 x7_1 x54_2).f3)] (fun k_ => some k_ ≠ (.slice (some ad221) x7_1.length co44 : Value).ownBlock ∧ some k_ ≠ (.slice (some ad221) x7_1.length co44 : Value).ownBlock ∧ k_ ≠ gb222) (fun _ => False) rfl rfl ?aP (fun _ hk => hk.elim) ?aF ?aO ?aB ?aS ?aL ?_;(case aP => exact k33_mkM _ _ _ (⟨(rd_T33 x7_1 x54_2).f0,(rd_T33 x7_1 x54_2).f1,(rd_T33 x7_1 x54_2).f2,(rd_T33 x7_1 x54_2).f3⟩ : S33));(case aB => exact (by repeat (first | (with_reducible first | exact HB.out | apply below_alloc | apply pw_below_drewN | apply below_drew1 | refine below_set ?_ GE222.out) | exact HB.out)));(case aF => exact (fun k_ hk => ⟨Kd.fresh' (Kd.R_lt (by (with_reducible repeat (first | apply Kd.R_alloc | apply Kd.R_drewN | apply Kd.R_drew));exact HO_7.out)) k_ hk,Kd.fresh' (Kd.R_lt (by (with_reducible repeat (first | apply Kd.R_alloc | apply Kd.R_drewN | apply Kd.R_drew));exact HO_52.out)) k_ hk,Kd.freshB (g:=gb222) (o:=.cells #[.string ((rd_T33 x7_1 x54_2).f0),.int .i64 ((rd_T33 x7_1 x54_2).f1),.bool ((rd_T33 x7_1 x54_2).f2),.int .i64 ((rd_T33 x7_1 x54_2).f3)] 33 (0,0)) (by (with_reducible repeat (first | refine blk_drewN ?_ _ | refine blk_drew ?_ | refine blk_alloc ?_ _));exact BK222.out) k_ hk⟩));(case aO => exact (by (with_reducible repeat (first | apply Kd.R_alloc | apply Kd.R_drewN | apply Kd.R_drew));exact HO_10.out));(case aS => exact (below_size (by repeat (first | (with_reducible first | exact HB.out | apply below_alloc | apply pw_below_drewN | apply below_drew1 | refine below_set ?_ GE222.out) | exact HB.out))));(case aL => have:=LMc90.out;omega);intro v234 w96 ho hb hg hat;rw [← Ny233.out] at ho;have n0_:=Aside0.mk (Kd.R_after (ok:=(fun k_ => k_ ≠ gb222)) (by (with_reducible repeat (first | apply Kd.R_alloc | apply Kd.R_drewN | apply Kd.R_drew));exact Kd.R_mono HO_7.out (fun _ hk => ⟨hk.2,hk.1⟩)) hg hat);have n1_:=Aside0.mk (Kd.R_after (ok:=(fun k_ => k_ ≠ gb222)) (by (with_reducible repeat (first | apply Kd.R_alloc | apply Kd.R_drewN | apply Kd.R_drew));exact Kd.R_mono HO_52.out (fun _ hk => ⟨hk.2,hk.1⟩)) hg hat);have n2_:=Aside0.mk (blk_grown (g:=gb222) (o:=.cells #[.string ((rd_T33 x7_1 x54_2).f0),.int .i64 ((rd_T33 x7_1 x54_2).f1),.bool ((rd_T33 x7_1 x54_2).f2),.int .i64 ((rd_T33 x7_1 x54_2).f3)] 33 (0,0)) (by (with_reducible repeat (first | refine blk_drewN ?_ _ | refine blk_drew ?_ | refine blk_alloc ?_ _));exact BK222.out) hg (Kd.R_away HO_10.out (fun _ hk => hk.2.2)));have n3_:=Aside0.mk (hb);have n4_:=Aside0.mk (ho);clear HO_7;clear HO_52;clear BK222;clear HB;clear HO_10;have HO_7:=n0_;have HO_52:=n1_;have BK222:=n2_;have HB:=n3_;have HO235:=n4_;clear n0_ n1_ n2_ n3_ n4_;clear ho hb hg hat))
                go_roundg k2
                case measure => have:=HK1.out;have:=HK2.out;omega
                case rel => exact ⟨(y233),(ji71),(by first | rfl | (simp;done) | (simp only [← hji71] <;> (first | rfl | simp)) | (simp [*];done)),H',⟨by have:=HK1.out;have:=HK2.out;omega⟩,⟨by (with_reducible repeat (first | apply Kd.R_alloc | apply Kd.R_drewN | apply Kd.R_drew));exact Kd.R_mono HO_7.out (fun _ hk => hk.2)⟩,⟨by (with_reducible repeat (first | apply Kd.R_alloc | apply Kd.R_drewN | apply Kd.R_drew));exact Kd.R_mono HO235.out (fun _ hk => ⟨hk.1,hk.2.1⟩)⟩,⟨by (with_reducible repeat (first | apply Kd.R_alloc | apply Kd.R_drewN | apply Kd.R_drew));exact Kd.R_mono HO_52.out (fun _ hk => hk.2)⟩,⟨by repeat (first | (with_reducible first | exact HB.out | apply below_alloc | apply pw_below_drewN | apply below_drew1 | refine below_set ?_ GE222.out) | exact HB.out)⟩⟩
               ·rw [if_neg c90] at H
                exact absurd H (by simp)
             ·replace c74:=Bool.eq_false_iff.mpr c74
              subst c74
              have H1 : (if x10_2.length < 3518437208883 then (impl_RunTrim.l1 k2 false x7_1 (x10_2 ++ [(⟨(rd_T33 x7_1 x54_2).f0,(rd_T33 x7_1 x54_2).f1,(rd_T33 x7_1 x54_2).f2,(rd_T33 x7_1 x54_2).f3⟩ : S33)]) x7_1 (x7_1.length : Int) ji71) else (none)) = some r:=by rw [if_neg (show ¬ (false = true) by decide)] at H;exact H
              clear H
              have H:=H1
              clear H1
              by_cases c97 : x10_2.length < 3518437208883
              ·rw [if_pos c97] at H
               have LMc97:=Aside0.mk c97
               clear c97
               obtain ⟨y236,hy236⟩ : ∃ y_ : List (S33),y_ = (x10_2 ++ [(⟨(rd_T33 x7_1 x54_2).f0,(rd_T33 x7_1 x54_2).f1,(rd_T33 x7_1 x54_2).f2,(rd_T33 x7_1 x54_2).f3⟩ : S33)]):=⟨_,rfl⟩
               replace H : (impl_RunTrim.l1 k2 false x7_1 y236 x7_1 (x7_1.length : Int) ji71) = some r:=by first | (rw [hy236];with_reducible exact H) | (have H2_:=(Option.bind_some _ _).symm.trans H;rw [hy236];with_reducible exact H2_) | (have H2_:=(Option.bind_some _ _).symm.trans H;with_reducible exact H2_) | with_reducible exact H | (rw [hy236];exact H) | exact H
               have Ny236:=Aside0.mk hy236
               clear hy236
               have H':=Aside0.mk H
               clear H
               have p221 : 0 ≤ (x54_2 : Int):=of_decide_eq_true (by first | (with_reducible assumption) | assumption)
               have q221 : x54_2 < (x7_1.length : Int):=of_decide_eq_true (by first | (with_reducible assumption) | assumption)
               obtain ⟨ad221,e221,hx221_0,hx221_1,hx221_2,hx221_3⟩:=at_T33 (Kd.R_reads' HO_52.out).2.2 x54_2 p221 q221
               cases e221
               replace p221:=eq_true p221
               replace q221:=eq_true q221
               try go_wp2_with (first | ((with_reducible refine gate_dst (N:=12) rfl ?_);refine box_event ?hg (N:=12) ?hd (cs:=#[.string (⟨#[]⟩ : ByteArray),.int .i64 0,.bool false,.int .i64 0]) (t:=33) ?hr ?_;(case hd => rfl);(case hg => rfl);(case hr => first | (go_simp;done) | (go_simp;rfl));intro gb222 hg w98 hbox hb;have n0_:=Aside0.mk (Kd.R_below (Kd.R_elderB (by (with_reducible repeat (first | apply Kd.R_alloc | apply Kd.R_drewN | apply Kd.R_drew));exact HO_7.out) gb222 (Nat.le_of_eq hg.symm)) hb);have n1_:=Aside0.mk (Kd.R_below (Kd.R_elderB (by (with_reducible repeat (first | apply Kd.R_alloc | apply Kd.R_drewN | apply Kd.R_drew));exact HO_10.out) gb222 (Nat.le_of_eq hg.symm)) hb);have n2_:=Aside0.mk (Kd.R_below (Kd.R_elderB (by (with_reducible repeat (first | apply Kd.R_alloc | apply Kd.R_drewN | apply Kd.R_drew));exact HO_52.out) gb222 (Nat.le_of_eq hg.symm)) hb);have n3_:=Aside0.mk (below_step (by repeat (first | (with_reducible first | exact HB.out | apply below_alloc | apply pw_below_drewN | apply below_drew1) | exact HB.out)) hb);have n4_:=Aside0.mk (hbox);have n5_:=Aside0.mk ((by rw [hg];exact (below_size (by repeat (first | (with_reducible first | exact HB.out | apply below_alloc | apply pw_below_drewN | apply below_drew1) | exact HB.out))) : w.heap.size ≤ gb222));have n6_:=Aside0.mk ((by rw [hg];exact (below_size (by repeat (first | (with_reducible first | exact HB.out | apply below_alloc | apply pw_below_drewN | apply below_drew1) | exact HB.out))) : w.heap.size ≤ gb222));clear HO_7;clear HO_10;clear HO_52;clear HB;have HO_7:=n0_;have HO_10:=n1_;have HO_52:=n2_;have HB:=n3_;have BK222:=n4_;have GW222:=n5_;have GE222:=n6_;clear n0_ n1_ n2_ n3_ n4_ n5_ n6_;clear hb hbox hg;have hcz99_0 : w98.cell? ⟨gb222,0,none⟩ = some (.string (⟨#[]⟩ : ByteArray)):=(blk_cell BK222.out 0).trans rfl;have hcz99_1 : w98.cell? ⟨gb222,1,none⟩ = some (.int .i64 0):=(blk_cell BK222.out 1).trans rfl;have hcz99_2 : w98.cell? ⟨gb222,2,none⟩ = some (.bool false):=(blk_cell BK222.out 2).trans rfl;have hcz99_3 : w98.cell? ⟨gb222,3,none⟩ = some (.int .i64 0):=(blk_cell BK222.out 3).trans rfl;have hfz99_0:=blk_frozen BK222.out 0;have hfz99_1:=blk_frozen BK222.out 1;have hfz99_2:=blk_frozen BK222.out 2;have hfz99_3:=blk_frozen BK222.out 3))
               have n0_ : Aside0 (Kd.R k33 33 ((((w98.setCell ⟨gb222,0,none⟩ (.string ((rd_T33 x7_1 x54_2).f0))).setCell ⟨gb222,1,none⟩ (.int .i64 ((rd_T33 x7_1 x54_2).f1))).setCell ⟨gb222,2,none⟩ (.bool ((rd_T33 x7_1 x54_2).f2))).setCell ⟨gb222,3,none⟩ (.int .i64 ((rd_T33 x7_1 x54_2).f3))) w.heap.size (fun k_ => some k_ ≠ (u10 : Value).ownBlock ∧ k_ ≠ gb222) (.slice (some ad221) x7_1.length co44) x7_1):=⟨by (with_reducible repeat (first | apply Kd.R_alloc | apply Kd.R_drewN | apply Kd.R_drew));exact Kd.R_mono (Kd.R_far (p:=⟨gb222,3,none⟩) (Kd.R_far (p:=⟨gb222,2,none⟩) (Kd.R_far (p:=⟨gb222,1,none⟩) (Kd.R_far (p:=⟨gb222,0,none⟩) (Kd.R_mono HO_7.out (fun k_ hk => (⟨hk,hk.2⟩ : _ ∧ k_ ≠ gb222))) (fun _ hk => hk.2) (.string ((rd_T33 x7_1 x54_2).f0))) (fun _ hk => hk.2) (.int .i64 ((rd_T33 x7_1 x54_2).f1))) (fun _ hk => hk.2) (.bool ((rd_T33 x7_1 x54_2).f2))) (fun _ hk => hk.2) (.int .i64 ((rd_T33 x7_1 x54_2).f3))) (fun _ hk => ⟨hk.1.1,hk.1.2⟩)⟩
               have n1_ : Aside0 (Kd.R k33 33 ((((w98.setCell ⟨gb222,0,none⟩ (.string ((rd_T33 x7_1 x54_2).f0))).setCell ⟨gb222,1,none⟩ (.int .i64 ((rd_T33 x7_1 x54_2).f1))).setCell ⟨gb222,2,none⟩ (.bool ((rd_T33 x7_1 x54_2).f2))).setCell ⟨gb222,3,none⟩ (.int .i64 ((rd_T33 x7_1 x54_2).f3))) w.heap.size (fun k_ => some k_ ≠ (.slice (some ad221) x7_1.length co44 : Value).ownBlock ∧ some k_ ≠ (.slice (some ad221) x7_1.length co44 : Value).ownBlock ∧ k_ ≠ gb222) u10 x10_2):=⟨by (with_reducible repeat (first | apply Kd.R_alloc | apply Kd.R_drewN | apply Kd.R_drew));exact Kd.R_mono (Kd.R_far (p:=⟨gb222,3,none⟩) (Kd.R_far (p:=⟨gb222,2,none⟩) (Kd.R_far (p:=⟨gb222,1,none⟩) (Kd.R_far (p:=⟨gb222,0,none⟩) (Kd.R_mono HO_10.out (fun k_ hk => (⟨hk,hk.2⟩ : _ ∧ k_ ≠ gb222))) (fun _ hk => hk.2) (.string ((rd_T33 x7_1 x54_2).f0))) (fun _ hk => hk.2) (.int .i64 ((rd_T33 x7_1 x54_2).f1))) (fun _ hk => hk.2) (.bool ((rd_T33 x7_1 x54_2).f2))) (fun _ hk => hk.2) (.int .i64 ((rd_T33 x7_1 x54_2).f3))) (fun _ hk => ⟨hk.1.1.1,⟨hk.1.1.2,hk.1.2⟩⟩)⟩
               have n2_ : Aside0 (Kd.R k33 33 ((((w98.setCell ⟨gb222,0,none⟩ (.string ((rd_T33 x7_1 x54_2).f0))).setCell ⟨gb222,1,none⟩ (.int .i64 ((rd_T33 x7_1 x54_2).f1))).setCell ⟨gb222,2,none⟩ (.bool ((rd_T33 x7_1 x54_2).f2))).setCell ⟨gb222,3,none⟩ (.int .i64 ((rd_T33 x7_1 x54_2).f3))) w.heap.size (fun k_ => some k_ ≠ (u10 : Value).ownBlock ∧ k_ ≠ gb222) (.slice (some ad221) x7_1.length co44) x7_1):=⟨by (with_reducible repeat (first | apply Kd.R_alloc | apply Kd.R_drewN | apply Kd.R_drew));exact Kd.R_mono (Kd.R_far (p:=⟨gb222,3,none⟩) (Kd.R_far (p:=⟨gb222,2,none⟩) (Kd.R_far (p:=⟨gb222,1,none⟩) (Kd.R_far (p:=⟨gb222,0,none⟩) (Kd.R_mono HO_52.out (fun k_ hk => (⟨hk,hk.2⟩ : _ ∧ k_ ≠ gb222))) (fun _ hk => hk.2) (.string ((rd_T33 x7_1 x54_2).f0))) (fun _ hk => hk.2) (.int .i64 ((rd_T33 x7_1 x54_2).f1))) (fun _ hk => hk.2) (.bool ((rd_T33 x7_1 x54_2).f2))) (fun _ hk => hk.2) (.int .i64 ((rd_T33 x7_1 x54_2).f3))) (fun _ hk => ⟨hk.1.1,hk.1.2⟩)⟩
               have n3_ : Aside0 (((((w98.setCell ⟨gb222,0,none⟩ (.string ((rd_T33 x7_1 x54_2).f0))).setCell ⟨gb222,1,none⟩ (.int .i64 ((rd_T33 x7_1 x54_2).f1))).setCell ⟨gb222,2,none⟩ (.bool ((rd_T33 x7_1 x54_2).f2))).setCell ⟨gb222,3,none⟩ (.int .i64 ((rd_T33 x7_1 x54_2).f3))).heap[gb222]? = some (.cells #[.string ((rd_T33 x7_1 x54_2).f0),.int .i64 ((rd_T33 x7_1 x54_2).f1),.bool ((rd_T33 x7_1 x54_2).f2),.int .i64 ((rd_T33 x7_1 x54_2).f3)] 33 (0,0))):=⟨by (with_reducible repeat (first | refine blk_drewN ?_ _ | refine blk_drew ?_ | refine blk_alloc ?_ _));refine blk_put (cs:=#[.string ((rd_T33 x7_1 x54_2).f0),.int .i64 ((rd_T33 x7_1 x54_2).f1),.bool ((rd_T33 x7_1 x54_2).f2),.int .i64 0]) ?_ 3 _ rfl;(with_reducible repeat (first | refine blk_drewN ?_ _ | refine blk_drew ?_ | refine blk_alloc ?_ _));refine blk_put (cs:=#[.string ((rd_T33 x7_1 x54_2).f0),.int .i64 ((rd_T33 x7_1 x54_2).f1),.bool false,.int .i64 0]) ?_ 2 _ rfl;(with_reducible repeat (first | refine blk_drewN ?_ _ | refine blk_drew ?_ | refine blk_alloc ?_ _));refine blk_put (cs:=#[.string ((rd_T33 x7_1 x54_2).f0),.int .i64 0,.bool false,.int .i64 0]) ?_ 1 _ rfl;(with_reducible repeat (first | refine blk_drewN ?_ _ | refine blk_drew ?_ | refine blk_alloc ?_ _));refine blk_put (cs:=#[.string (⟨#[]⟩ : ByteArray),.int .i64 0,.bool false,.int .i64 0]) ?_ 0 _ rfl;(with_reducible repeat (first | refine blk_drewN ?_ _ | refine blk_drew ?_ | refine blk_alloc ?_ _));exact BK222.out⟩
               have n4_ : Aside0 (Below w.heap.size w ((((w98.setCell ⟨gb222,0,none⟩ (.string ((rd_T33 x7_1 x54_2).f0))).setCell ⟨gb222,1,none⟩ (.int .i64 ((rd_T33 x7_1 x54_2).f1))).setCell ⟨gb222,2,none⟩ (.bool ((rd_T33 x7_1 x54_2).f2))).setCell ⟨gb222,3,none⟩ (.int .i64 ((rd_T33 x7_1 x54_2).f3)))):=⟨by repeat (first | (with_reducible first | exact HB.out | apply below_alloc | apply pw_below_drewN | apply below_drew1 | refine below_set ?_ GE222.out) | exact HB.out)⟩
               (try clear HO_7)
               (try clear HO_10)
               (try clear HO_52)
               (try clear BK222)
               (try clear HB)
               generalize ((((w98.setCell ⟨gb222,0,none⟩ (.string ((rd_T33 x7_1 x54_2).f0))).setCell ⟨gb222,1,none⟩ (.int .i64 ((rd_T33 x7_1 x54_2).f1))).setCell ⟨gb222,2,none⟩ (.bool ((rd_T33 x7_1 x54_2).f2))).setCell ⟨gb222,3,none⟩ (.int .i64 ((rd_T33 x7_1 x54_2).f3))) = w100 at n0_ n1_ n2_ n3_ n4_ ⊢
               have HO_7:=n0_
               have HO_10:=n1_
               have HO_52:=n2_
               have BK222:=n3_
               have HB:=n4_
               clear n0_ n1_ n2_ n3_ n4_
               have n0_:=Aside0.mk (Kd.R_drew HO_7.out)
               have n1_:=Aside0.mk (Kd.R_drew HO_10.out)
               have n2_:=Aside0.mk (Kd.R_drew HO_52.out)
               have n3_:=Aside0.mk (blk_drew BK222.out)
               have n4_:=Aside0.mk (below_drew1 HB.out)
               clear HO_7
               clear HO_10
               clear HO_52
               clear BK222
               clear HB
               have HO_7:=n0_
               have HO_10:=n1_
               have HO_52:=n2_
               have BK222:=n3_
               have HB:=n4_
               clear n0_ n1_ n2_ n3_ n4_
               have p229 : 0 ≤ ((ji71) : Int):=of_decide_eq_true (by first | (with_reducible assumption) | assumption)
               have q229 : (ji71) < (x7_1.length : Int):=of_decide_eq_true (by first | (with_reducible assumption) | assumption)
               obtain ⟨ad229,e229,hx229_0,hx229_1,hx229_2,hx229_3⟩:=at_T33 (Kd.R_reads' HO_7.out).2.2 (ji71) p229 q229
               obtain rfl : ad221 = ad229:=(by injection e229)
               replace p229:=eq_true p229
               replace q229:=eq_true q229
               refine start_ (n:=17) (S:=fun w' => w'.cell? ⟨gb222,0,none⟩ = some (.string ((rd_T33 x7_1 x54_2).f0)) ∧ w'.cell? ⟨gb222,1,none⟩ = some (.int .i64 ((rd_T33 x7_1 x54_2).f1)) ∧ w'.cell? ⟨gb222,2,none⟩ = some (.bool ((rd_T33 x7_1 x54_2).f2)) ∧ w'.cell? ⟨gb222,3,none⟩ = some (.int .i64 ((rd_T33 x7_1 x54_2).f3)) ∧ w'.cell? (ad221.add (((ji71)).toNat * 4)) = some (.string ((rd_T33 x7_1 (ji71)).f0)) ∧ w'.cell? ⟨(ad221.add (((ji71)).toNat * 4)).block,(ad221.add (((ji71)).toNat * 4)).off + 1,none⟩ = some (.int .i64 ((rd_T33 x7_1 (ji71)).f1)) ∧ w'.cell? ⟨(ad221.add (((ji71)).toNat * 4)).block,(ad221.add (((ji71)).toNat * 4)).off + 2,none⟩ = some (.bool ((rd_T33 x7_1 (ji71)).f2)) ∧ w'.cell? ⟨(ad221.add (((ji71)).toNat * 4)).block,(ad221.add (((ji71)).toNat * 4)).off + 3,none⟩ = some (.int .i64 ((rd_T33 x7_1 (ji71)).f3))) (ds:=[]) #[false,false,false,false,false,false,false,false,false,false,false,false,false,false,false,false,false] (by kernel_rfl) rfl rfl ⟨(blk_cell BK222.out 0).trans rfl,(blk_cell BK222.out 1).trans rfl,(blk_cell BK222.out 2).trans rfl,(blk_cell BK222.out 3).trans rfl,hx229_0,hx229_1,hx229_2,hx229_3⟩ (fun hHeld => ?_);refine with_tabW impl_RunTrim.tab14 impl_RunTrim.bits14 (fun HT_ HW_ => ?_)
               generalize w100.drew = w101 at HO_7 HO_10 HO_52 BK222 HB hx229_0 hx229_1 hx229_2 hx229_3 hHeld ⊢
               refine pure_ (i:=0) (N:=some 59) (v:=?_) (a':=?_) #[true,false,false,false,false,false,false,false,false,false,false,false,false,false,false,false,false] rfl rfl (any_of HT_.out (by kernel_rfl)) (fun _ _ _ h => h) (Or.inl ⟨by rfl,?_⟩) ?_ ?_
               rotate_left
               ·intro w'
                go_simp
                with_reducible rfl
               rotate_left
               ·simp only [Act.put,List.setIfInBounds_toArray,List.set_cons_zero,List.set_cons_succ,i64_w,i32_w]
                rfl
               refine pure_ (i:=1) (N:=some 60) (v:=?_) (a':=?_) #[true,true,false,false,false,false,false,false,false,false,false,false,false,false,false,false,false] rfl rfl (any_of HT_.out (by kernel_rfl)) (fun _ _ _ h => h) (Or.inl ⟨by rfl,?_⟩) ?_ ?_
               rotate_left
               ·intro w'
                go_simp
                with_reducible rfl
               rotate_left
               ·simp only [Act.put,List.setIfInBounds_toArray,List.set_cons_zero,List.set_cons_succ,i64_w,i32_w]
                rfl
               refine pure_ (i:=2) (N:=some 61) (v:=?_) (a':=?_) #[true,true,true,false,false,false,false,false,false,false,false,false,false,false,false,false,false] rfl rfl (any_of HT_.out (by kernel_rfl)) (fun _ _ _ h => h) (Or.inl ⟨by rfl,?_⟩) ?_ ?_
               rotate_left
               ·intro w'
                go_simp
                with_reducible rfl
               rotate_left
               ·simp only [Act.put,List.setIfInBounds_toArray,List.set_cons_zero,List.set_cons_succ,i64_w,i32_w]
                rfl
               refine pure_ (i:=3) (N:=some 62) (v:=?_) (a':=?_) #[true,true,true,true,false,false,false,false,false,false,false,false,false,false,false,false,false] rfl rfl (any_of HT_.out (by kernel_rfl)) (fun _ _ _ h => h) (Or.inl ⟨by rfl,?_⟩) ?_ ?_
               rotate_left
               ·intro w'
                go_simp
                with_reducible rfl
               rotate_left
               ·simp only [Act.put,List.setIfInBounds_toArray,List.set_cons_zero,List.set_cons_succ,i64_w,i32_w]
                rfl
               refine pure_ (i:=4) (N:=some 63) (v:=?_) (a':=?_) #[true,true,true,true,true,false,false,false,false,false,false,false,false,false,false,false,false] rfl rfl (any_of HT_.out (by kernel_rfl)) (fun _ _ _ h => h) (Or.inl ⟨by rfl,?_⟩) ?_ ?_
               rotate_left
               ·intro w'
                go_simp
                with_reducible rfl
               rotate_left
               ·simp only [Act.put,List.setIfInBounds_toArray,List.set_cons_zero,List.set_cons_succ,i64_w,i32_w]
                rfl
               refine pure_ (i:=5) (N:=some 64) (v:=?_) (a':=?_) #[true,true,true,true,true,true,false,false,false,false,false,false,false,false,false,false,false] rfl rfl (any_of HT_.out (by kernel_rfl)) (fun _ _ _ h => h) (Or.inl ⟨by rfl,?_⟩) ?_ ?_
               rotate_left
               ·intro w'
                go_simp
                with_reducible rfl
               rotate_left
               ·simp only [Act.put,List.setIfInBounds_toArray,List.set_cons_zero,List.set_cons_succ,i64_w,i32_w]
                rfl
               refine pure_ (i:=6) (N:=some 65) (v:=?_) (a':=?_) #[true,true,true,true,true,true,true,false,false,false,false,false,false,false,false,false,false] rfl rfl (any_of HT_.out (by kernel_rfl)) (fun _ _ _ h => h) (Or.inl ⟨by rfl,?_⟩) ?_ ?_
               rotate_left
               ·intro w'
                go_simp
                with_reducible rfl
               rotate_left
               ·simp only [Act.put,List.setIfInBounds_toArray,List.set_cons_zero,List.set_cons_succ,i64_w,i32_w]
                rfl
               refine pure_ (i:=7) (N:=some 66) (v:=?_) (a':=?_) #[true,true,true,true,true,true,true,true,false,false,false,false,false,false,false,false,false] rfl rfl (any_of HT_.out (by kernel_rfl)) (fun _ _ _ h => h) (Or.inl ⟨by rfl,?_⟩) ?_ ?_
               rotate_left
               ·intro w'
                go_simp
                with_reducible rfl
               rotate_left
               ·simp only [Act.put,List.setIfInBounds_toArray,List.set_cons_zero,List.set_cons_succ,i64_w,i32_w]
                rfl
               refine pure_ (i:=8) (N:=some 67) (v:=?_) (a':=?_) #[true,true,true,true,true,true,true,true,true,false,false,false,false,false,false,false,false] rfl rfl (any_of HT_.out (by kernel_rfl)) (fun _ _ _ h => h) (Or.inl ⟨by rfl,?_⟩) ?_ ?_
               rotate_left
               ·intro w'
                go_simp
                with_reducible rfl
               rotate_left
               ·simp only [Act.put,List.setIfInBounds_toArray,List.set_cons_zero,List.set_cons_succ,i64_w,i32_w]
                rfl
               refine pure_ (i:=9) (N:=some 68) (v:=?_) (a':=?_) #[true,true,true,true,true,true,true,true,true,true,false,false,false,false,false,false,false] rfl rfl (any_of HT_.out (by kernel_rfl)) (fun _ _ _ h => h) (Or.inl ⟨by rfl,?_⟩) ?_ ?_
               rotate_left
               ·intro w'
                go_simp
                with_reducible rfl
               rotate_left
               ·simp only [Act.put,List.setIfInBounds_toArray,List.set_cons_zero,List.set_cons_succ,i64_w,i32_w]
                rfl
               refine pure_ (i:=10) (N:=some 69) (v:=?_) (a':=?_) #[true,true,true,true,true,true,true,true,true,true,true,false,false,false,false,false,false] rfl rfl (any_of HT_.out (by kernel_rfl)) (fun _ _ _ h => h) (Or.inl ⟨by rfl,?_⟩) ?_ ?_
               rotate_left
               ·intro w'
                go_simp
                with_reducible rfl
               rotate_left
               ·simp only [Act.put,List.setIfInBounds_toArray,List.set_cons_zero,List.set_cons_succ,i64_w,i32_w]
                rfl
               refine pure_ (i:=12) (N:=some 71) (v:=?_) (a':=?_) #[true,true,true,true,true,true,true,true,true,true,true,false,true,false,false,false,false] rfl rfl (any_of HT_.out (by kernel_rfl)) (fun _ _ _ h => h) (Or.inl ⟨by rfl,?_⟩) ?_ ?_
               rotate_left
               ·intro w'
                go_simp
                with_reducible rfl
               rotate_left
               ·simp only [Act.put,List.setIfInBounds_toArray,List.set_cons_zero,List.set_cons_succ,i64_w,i32_w]
                rfl
               refine take_ (i:=11) (N:=some 70) (v:=?_) (a':=?_) #[true,true,true,true,true,true,true,true,true,true,true,true,true,false,false,false,false] rfl rfl (take_ofW HT_.out HW_.out (by kernel_rfl)) (fun _ _ _ h => h) (Or.inl ⟨by rfl,?_⟩) hHeld ?_ ?_
               rotate_left
               ·rintro w' ⟨s0,s1,s2,s3,s4,s5,s6,s7⟩
                go_simp
                with_reducible rfl
               rotate_left
               ·simp only [Act.put,List.setIfInBounds_toArray,List.set_cons_zero,List.set_cons_succ,i64_w,i32_w]
                rfl
               refine take_ (i:=13) (N:=some 72) (v:=?_) (a':=?_) #[true,true,true,true,true,true,true,true,true,true,true,true,true,true,false,false,false] rfl rfl (take_ofW HT_.out HW_.out (by kernel_rfl)) (fun _ _ _ h => h) (Or.inl ⟨by rfl,?_⟩) hHeld ?_ ?_
               rotate_left
               ·rintro w' ⟨s0,s1,s2,s3,s4,s5,s6,s7⟩
                go_simp
                with_reducible rfl
               rotate_left
               ·simp only [Act.put,List.setIfInBounds_toArray,List.set_cons_zero,List.set_cons_succ,i64_w,i32_w]
                rfl
               refine pure_ (i:=14) (N:=some 73) (v:=?_) (a':=?_) #[true,true,true,true,true,true,true,true,true,true,true,true,true,true,true,false,false] rfl rfl (any_of HT_.out (by kernel_rfl)) (fun _ _ _ h => h) (Or.inl ⟨by rfl,?_⟩) ?_ ?_
               rotate_left
               ·intro w'
                go_simp
                with_reducible rfl
               rotate_left
               ·simp only [Act.put,List.setIfInBounds_toArray,List.set_cons_zero,List.set_cons_succ,i64_w,i32_w]
                rfl
               refine pure_ (i:=15) (N:=some 74) (v:=?_) (a':=?_) #[true,true,true,true,true,true,true,true,true,true,true,true,true,true,true,true,false] rfl rfl (any_of HT_.out (by kernel_rfl)) (fun _ _ _ h => h) (Or.inl ⟨by rfl,?_⟩) ?_ ?_
               rotate_left
               ·intro w'
                go_simp
                with_reducible rfl
               rotate_left
               ·simp only [Act.put,List.setIfInBounds_toArray,List.set_cons_zero,List.set_cons_succ,i64_w,i32_w]
                rfl
               refine pure_ (i:=16) (N:=some 13) (v:=?_) (a':=?_) #[true,true,true,true,true,true,true,true,true,true,true,true,true,true,true,true,true] rfl rfl (any_of HT_.out (by kernel_rfl)) (fun _ _ _ h => h) (Or.inl ⟨by rfl,?_⟩) ?_ ?_
               rotate_left
               ·intro w'
                go_simp
                with_reducible rfl
               rotate_left
               ·simp only [Act.put,List.setIfInBounds_toArray,List.set_cons_zero,List.set_cons_succ,i64_w,i32_w]
                rfl
               refine done_ (done_of HT_.out (by kernel_rfl)) ?_
               have hcz102_0 : w101.cell? ⟨gb222,0,none⟩ = some (.string ((rd_T33 x7_1 x54_2).f0)):=(blk_cell BK222.out 0).trans rfl
               have hcz102_1 : w101.cell? ⟨gb222,1,none⟩ = some (.int .i64 ((rd_T33 x7_1 x54_2).f1)):=(blk_cell BK222.out 1).trans rfl
               have hcz102_2 : w101.cell? ⟨gb222,2,none⟩ = some (.bool ((rd_T33 x7_1 x54_2).f2)):=(blk_cell BK222.out 2).trans rfl
               have hcz102_3 : w101.cell? ⟨gb222,3,none⟩ = some (.int .i64 ((rd_T33 x7_1 x54_2).f3)):=(blk_cell BK222.out 3).trans rfl
               have hfz102_0:=blk_frozen BK222.out 0
               have hfz102_1:=blk_frozen BK222.out 1
               have hfz102_2:=blk_frozen BK222.out 2
               have hfz102_3:=blk_frozen BK222.out 3
               try go_wp2_with (first | ((with_reducible refine gate_builtin (b:=.append) (xs:=#[.tmp 86,.tmp 88]) rfl ?_);at_builtin;refine Kd.R_append k33 (w0:=w) w.heap.size rfl (.tmp 86) (.tmp 88) 26 33 (.agg #[(.string ⟨#[]⟩),(.int .i64 0),(.bool false),(.int .i64 0)]) 40 rfl Try.underlying26 info33 rfl (by decide) (by omega) u10 x10_2 (⟨(rd_T33 x7_1 x54_2).f0,(rd_T33 x7_1 x54_2).f1,(rd_T33 x7_1 x54_2).f2,(rd_T33 x7_1 x54_2).f3⟩ : S33) [.string ((rd_T33 x7_1 x54_2).f0),.int .i64 ((rd_T33 x7_1 x54_2).f1),.bool ((rd_T33 x7_1 x54_2).f2),.int .i64 ((rd_T33 x7_1 x54_2).f3)] (fun k_ => some k_ ≠ (.slice (some ad221) x7_1.length co44 : Value).ownBlock ∧ some k_ ≠ (.slice (some ad221) x7_1.length co44 : Value).ownBlock ∧ k_ ≠ gb222) (fun _ => False) rfl rfl ?aP (fun _ hk => hk.elim) ?aF ?aO ?aB ?aS ?aL ?_;(case aP => exact k33_mkM _ _ _ (⟨(rd_T33 x7_1 x54_2).f0,(rd_T33 x7_1 x54_2).f1,(rd_T33 x7_1 x54_2).f2,(rd_T33 x7_1 x54_2).f3⟩ : S33));(case aB => exact (by repeat (first | (with_reducible first | exact HB.out | apply below_alloc | apply pw_below_drewN | apply below_drew1 | refine below_set ?_ GE222.out) | exact HB.out)));(case aF => exact (fun k_ hk => ⟨Kd.fresh' (Kd.R_lt (by (with_reducible repeat (first | apply Kd.R_alloc | apply Kd.R_drewN | apply Kd.R_drew));exact HO_7.out)) k_ hk,Kd.fresh' (Kd.R_lt (by (with_reducible repeat (first | apply Kd.R_alloc | apply Kd.R_drewN | apply Kd.R_drew));exact HO_52.out)) k_ hk,Kd.freshB (g:=gb222) (o:=.cells #[.string ((rd_T33 x7_1 x54_2).f0),.int .i64 ((rd_T33 x7_1 x54_2).f1),.bool ((rd_T33 x7_1 x54_2).f2),.int .i64 ((rd_T33 x7_1 x54_2).f3)] 33 (0,0)) (by (with_reducible repeat (first | refine blk_drewN ?_ _ | refine blk_drew ?_ | refine blk_alloc ?_ _));exact BK222.out) k_ hk⟩));(case aO => exact (by (with_reducible repeat (first | apply Kd.R_alloc | apply Kd.R_drewN | apply Kd.R_drew));exact HO_10.out));(case aS => exact (below_size (by repeat (first | (with_reducible first | exact HB.out | apply below_alloc | apply pw_below_drewN | apply below_drew1 | refine below_set ?_ GE222.out) | exact HB.out))));(case aL => have:=LMc97.out;omega);intro v237 w103 ho hb hg hat;rw [← Ny236.out] at ho;have n0_:=Aside0.mk (Kd.R_after (ok:=(fun k_ => k_ ≠ gb222)) (by (with_reducible repeat (first | apply Kd.R_alloc | apply Kd.R_drewN | apply Kd.R_drew));exact Kd.R_mono HO_7.out (fun _ hk => ⟨hk.2,hk.1⟩)) hg hat);have n1_:=Aside0.mk (Kd.R_after (ok:=(fun k_ => k_ ≠ gb222)) (by (with_reducible repeat (first | apply Kd.R_alloc | apply Kd.R_drewN | apply Kd.R_drew));exact Kd.R_mono HO_52.out (fun _ hk => ⟨hk.2,hk.1⟩)) hg hat);have n2_:=Aside0.mk (blk_grown (g:=gb222) (o:=.cells #[.string ((rd_T33 x7_1 x54_2).f0),.int .i64 ((rd_T33 x7_1 x54_2).f1),.bool ((rd_T33 x7_1 x54_2).f2),.int .i64 ((rd_T33 x7_1 x54_2).f3)] 33 (0,0)) (by (with_reducible repeat (first | refine blk_drewN ?_ _ | refine blk_drew ?_ | refine blk_alloc ?_ _));exact BK222.out) hg (Kd.R_away HO_10.out (fun _ hk => hk.2.2)));have n3_:=Aside0.mk (hb);have n4_:=Aside0.mk (ho);clear HO_7;clear HO_52;clear BK222;clear HB;clear HO_10;have HO_7:=n0_;have HO_52:=n1_;have BK222:=n2_;have HB:=n3_;have HO238:=n4_;clear n0_ n1_ n2_ n3_ n4_;clear ho hb hg hat))
               go_roundg k2
               case measure => have:=HK1.out;have:=HK2.out;omega
               case rel => exact ⟨(y236),(ji71),(by first | rfl | (simp;done) | (simp only [← hji71] <;> (first | rfl | simp)) | (simp [*];done)),H',⟨by have:=HK1.out;have:=HK2.out;omega⟩,⟨by (with_reducible repeat (first | apply Kd.R_alloc | apply Kd.R_drewN | apply Kd.R_drew));exact Kd.R_mono HO_7.out (fun _ hk => hk.2)⟩,⟨by (with_reducible repeat (first | apply Kd.R_alloc | apply Kd.R_drewN | apply Kd.R_drew));exact Kd.R_mono HO238.out (fun _ hk => ⟨hk.1,hk.2.1⟩)⟩,⟨by (with_reducible repeat (first | apply Kd.R_alloc | apply Kd.R_drewN | apply Kd.R_drew));exact Kd.R_mono HO_52.out (fun _ hk => hk.2)⟩,⟨by repeat (first | (with_reducible first | exact HB.out | apply below_alloc | apply pw_below_drewN | apply below_drew1 | refine below_set ?_ GE222.out) | exact HB.out)⟩⟩
              ·rw [if_neg c97] at H
               exact absurd H (by simp)
            ·rw [if_neg c73] at H
             exact absurd H (by simp)
           ·rw [if_neg c72] at H
            exact absurd H (by simp)
         ·rw [if_neg c47] at H
          exact absurd H (by simp)
        ·rw [if_neg c46] at H
         exact absurd H (by simp)
       ·rw [if_neg c45] at H
        have c45b0 : decide (x54_2 < (x7_1.length : Int)) = false:=decide_eq_false c45
        clear c45
        obtain rfl:=Option.some.inj H
        go_wp2
        go_ret
        exact ⟨_,by first | rfl | (simp [errW_none,errW_some] <;> rfl) | (simp [*,errW_none,errW_some] <;> rfl),by (with_reducible repeat (first | apply Kd.R_alloc | apply Kd.R_drewN | apply Kd.R_drew));exact Kd.R_mono HO_10.out (fun _ hk => trivial),by repeat (first | (with_reducible first | exact HB.out | apply below_alloc | apply pw_below_drewN | apply below_drew1) | exact HB.out)⟩
 ·replace c5:=Bool.eq_false_iff.mpr c5
  subst c5
  have H1 : (some ([] : List (S33))) = some r:=by rw [if_neg (show ¬ (false = true) by decide)] at H;exact H
  clear H
  have H:=H1
  clear H1
  obtain rfl:=Option.some.inj H
  go_enter Try.func30,Try.ntmps30
  go_wp2_with (first | ((with_reducible refine gate_callee (f:=15) rfl ?_);refine goesL_ (some 15) rfl rfl Try.func15 (by kernel_rfl) rfl #[.slice A0 l0.length c0] rfl (by (try simp only [List.map_toArray,List.map_cons,List.map_nil]);first | done | rfl | (simp only [List.length_drop,List.length_take];rfl)) ?_;(with_reducible refine (impl_RunOk.calls k _ _ l0 false _ ?side1 ?side2 A4.out).mono ?_);(case side1 => repeat (first | exact HR0.out | (with_reducible refine Kd.C_alloc ?_ _) | (with_reducible refine Kd.C_drewN ?_ _) | (with_reducible refine Kd.C_drew ?_)));(case side2 => exact HC0.out);rintro e w104 ⟨rfl,hb⟩;refine ⟨_,rfl,?_⟩;have n0_:=Aside0.mk (below_step (by repeat (first | (with_reducible first | exact HB.out | apply below_alloc | apply pw_below_drewN | apply below_drew1) | exact HB.out)) hb);clear HB;have HB:=n0_;clear n0_;(try clear hb);(try clear hb2);(try clear hk);(try clear hi)))
  go_ret
  exact ⟨_,by first | rfl | (simp [errW_none,errW_some] <;> rfl) | (simp [*,errW_none,errW_some] <;> rfl),by first | exact Kd.R_nil _ _ _ _ _ | exact Kd.N_nil _ _ _ _ _ | exact Kd.V_nil _ _ _ _ _ | exact Kd.Q_nil _ _ _ _ _ | exact Kd.S_nil _ _ _ _ _,by repeat (first | (with_reducible first | exact HB.out | apply below_alloc | apply pw_below_drewN | apply below_drew1) | exact HB.out)⟩

end Go.Proofs.Ytbeinioebhiidaa.PFnExactRunTrim
