/-
 Functions that FnRunJoinAt reaches,each as a Lean function,and that Go comes to its answer: printed by the kit's printer,the sort's comparing function and impl.RunJoin's part laid by hand. Conditions: those that stand in each statement.
-/
import Derived.Test.YtkifijclehgiaaaPFnRunJoinAtx0
import Derived.Test.YtkifijclehgiaaaPFnRunJoinAtx1
import Derived.Test.YtkifijclehgiaaaPFnRunJoinAtx7
import Derived.Test.YtkifijclehgiaaaPFnRunJoinAtx8
namespace Go.Proofs.Ytkifijclehgiaaa.PFnRunJoinAt
open Go.RowKit Go.Proofs.YtkifijclehgiaaaW.PrintWords Go.Proofs.YtkifijclehgiaaaW.PrintLast Go.Proofs.YtkifijclehgiaaaW.PrintMore
attribute [local go_sem] max2_int min2_int max_two min_two max_three min_three max_four min_four   -- for this text's walks alone
set_option linter.unusedVariables false
set_option linter.unusedSimpArgs false

attribute [local go_sem high] eqA27
theorem T9q1 {p : Prop} (h : p := by first | (with_reducible assumption) | assumption) : p := h
theorem T9q2 {p : Prop} (h : p := by (with_reducible repeat (first | refine blk_drewN ?_ _ | refine blk_drew ?_ | refine blk_alloc ?_ _));exact BK297.out) : p := h
theorem T9q3 {p : Prop} (h : p := by (try simp only [List.map_toArray,List.map_cons,List.map_nil]);first | done | rfl | (simp only [List.length_drop,List.length_take];rfl)) : p := h
theorem T9q4 {p : Prop} (h : p := by (with_reducible repeat (first | refine blk_drewN ?_ _ | refine blk_drew ?_ | refine blk_alloc ?_ _));exact BK300.out) : p := h
theorem T9q5 {p : Prop} (h : p := by (with_reducible repeat (first | refine blk_drewN ?_ _ | refine blk_drew ?_ | refine blk_alloc ?_ _));exact BK310.out) : p := h
theorem T9q6 {p : Prop} (h : p := by (with_reducible repeat (first | refine blk_drewN ?_ _ | refine blk_drew ?_ | refine blk_alloc ?_ _));exact BK311.out) : p := h
/-! ### impl_at: function 40 -/
def impl_at.l0 : Nat → ByteArray → Int → List (S27) → Int → Int → Option (ByteArray × Int × Bool × Int × Bool)
 | 0,_,_,_,_,_ => none
 | k + 1,x1,x2,x10,x11,x12 => if x12 < x11 then (if 0 ≤ x12 then (if x12 < (x10.length : Int) then (if ((rd_T27 x10 x12).f0).toList = x1.toList then (if ((rd_T27 x10 x12).f3) ≤ x2 then (some ((rd_T27 x10 x12).f0,(rd_T27 x10 x12).f1,(rd_T27 x10 x12).f2,(rd_T27 x10 x12).f3,true)) else (impl_at.l0 k x1 x2 x10 x11 (wrap64 (x12 + 1)))) else (impl_at.l0 k x1 x2 x10 x11 (wrap64 (x12 + 1)))) else (none)) else (none)) else (some ((⟨#[]⟩ : ByteArray),0,false,0,false))
def impl_at.f (k : Nat) (l0 : List (S27)) (a1 : ByteArray) (a2 : Int) : Option (ByteArray × Int × Bool × Int × Bool):=impl_at.l0 k a1 a2 l0 (l0.length : Int) 0
set_option maxHeartbeats 8000000 in
set_option maxRecDepth 100000 in
theorem impl_at.calls (k : Nat) (A0 : Option Addr) (c0 : Nat) (l0 : List (S27)) (a1 : ByteArray) (a2 : Int) (r1 : ByteArray) (r2 : Int) (r3 : Bool) (r4 : Int) (r5 : Bool) (w : World) (hr0 : Kd.C k27 w A0 l0.length l0) (hc0 : l0.length ≤ c0) (h : impl_at.f k l0 a1 a2 = some (r1,r2,r3,r4,r5)) :
  Calls Try.prog 40 #[.slice A0 l0.length c0,.string a1,.int .i64 a2] w fun e w' => e = .returned (.tuple #[.agg #[.string r1,.int .i64 r2,.bool r3,.int .i64 r4],.bool r5]) ∧ Below w.heap.size w w':=by
 have hu27:=Try.underlying27
 have HR0:=Aside0.mk hr0
 have HC0:=Aside0.mk hc0
 clear hr0 hc0
 have HB:=Aside0.mk (Below.refl w.heap.size w)
 have H : (impl_at.l0 k a1 a2 l0 (l0.length : Int) 0) = some (r1,r2,r3,r4,r5):=h
 clear h
 have H':=Aside0.mk H
 clear H
 go_enter Try.func40,Try.ntmps40
 go_wp2_with (first | ((with_reducible refine gate_dst (N:=6) rfl ?_);refine box_event ?hg (N:=6) ?hd (cs:=#[.string (⟨#[]⟩ : ByteArray),.int .i64 0,.bool false,.int .i64 0]) (t:=27) ?hr ?_;(case hd => rfl);(case hg => rfl);(case hr => first | (go_simp;done) | (go_simp;rfl));intro gb297 hg w4 hbox hb;have n0_:=Aside0.mk (below_step (by repeat (first | (with_reducible first | exact HB.out | apply below_alloc | apply pw_below_drewN | apply below_drew1) | exact HB.out)) hb);have n1_:=Aside0.mk (hbox);have n2_:=Aside0.mk ((by rw [hg];exact (below_size (by repeat (first | (with_reducible first | exact HB.out | apply below_alloc | apply pw_below_drewN | apply below_drew1) | exact HB.out))) : w.heap.size ≤ gb297));have n3_:=Aside0.mk ((by rw [hg];exact (below_size (by repeat (first | (with_reducible first | exact HB.out | apply below_alloc | apply pw_below_drewN | apply below_drew1) | exact HB.out))) : w.heap.size ≤ gb297));clear HB;have HB:=n0_;have BK297:=n1_;have GW297:=n2_;have GE297:=n3_;clear n0_ n1_ n2_ n3_;clear hb hbox hg))
 go_loopg [12] k (fun kq v12 w' => ∃ (x12_1 : Int) (x298000_1 : ByteArray) (x298001_1 : Int) (x298002_1 : Bool) (x298003_1 : Int),v12 = .int .i64 x12_1 ∧ Aside0 (impl_at.l0 kq a1 a2 l0 (l0.length : Int) x12_1 = some (r1,r2,r3,r4,r5)) ∧ Aside0 (kq ≤ k) ∧ Aside0 (w'.heap[gb297]? = some (.cells #[.string x298000_1,.int .i64 x298001_1,.bool x298002_1,.int .i64 x298003_1] 27 (0,0))) ∧ Aside0 (Below w.heap.size w w'))
 case atStart => exact ⟨(0),((⟨#[]⟩ : ByteArray)),(0),(false),(0),(by first | rfl | (simp;done) | (simp [*];done)),H',⟨Nat.le_refl _⟩,⟨by (with_reducible repeat (first | refine blk_drewN ?_ _ | refine blk_drew ?_ | refine blk_alloc ?_ _));exact BK297.out⟩,⟨by repeat (first | (with_reducible first | exact HB.out | apply below_alloc | apply pw_below_drewN | apply below_drew1 | refine below_set ?_ GE297.out) | exact HB.out)⟩⟩
 case round =>
  clear H'
  try clear p2
  try clear c4
  obtain ⟨x12_1,x298000_1,x298001_1,x298002_1,x298003_1,rfl,HA,HK1,BK297,HB⟩:=hrel
  cases gk with
  | zero => exact absurd HA.out (by simp [impl_at.l0])
  | succ k1 =>
   have H:=HA.out
   clear HA
   simp only [impl_at.l0] at H
   by_cases c5 : x12_1 < (l0.length : Int)
   rotate_left
   ·rw [if_neg c5] at H
    have c5b0 : decide (x12_1 < (l0.length : Int)) = false:=decide_eq_false c5
    clear c5
    simp only [Option.some.injEq,Prod.mk.injEq] at H
    obtain ⟨rfl,rfl,rfl,rfl,rfl⟩:=H
    have hcz20_0 : wr.cell? ⟨gb297,0,none⟩ = some (.string x298000_1):=(blk_cell BK297.out 0).trans rfl
    have hcz20_1 : wr.cell? ⟨gb297,1,none⟩ = some (.int .i64 x298001_1):=(blk_cell BK297.out 1).trans rfl
    have hcz20_2 : wr.cell? ⟨gb297,2,none⟩ = some (.bool x298002_1):=(blk_cell BK297.out 2).trans rfl
    have hcz20_3 : wr.cell? ⟨gb297,3,none⟩ = some (.int .i64 x298003_1):=(blk_cell BK297.out 3).trans rfl
    have hfz20_0:=blk_frozen BK297.out 0
    have hfz20_1:=blk_frozen BK297.out 1
    have hfz20_2:=blk_frozen BK297.out 2
    have hfz20_3:=blk_frozen BK297.out 3
    go_wp2
    refine bodyPost_ret (results_ct rfl _ _ gb297 27 #[.string (⟨#[]⟩ : ByteArray),.int .i64 0,.bool false,.int .i64 0] (0,0) _ rfl (by (with_reducible repeat (first | refine blk_drewN ?_ _ | refine blk_drew ?_ | refine blk_alloc ?_ _));refine blk_put (cs:=#[.string (⟨#[]⟩ : ByteArray),.int .i64 0,.bool false,.int .i64 x298003_1]) ?_ 3 _ rfl;(with_reducible repeat (first | refine blk_drewN ?_ _ | refine blk_drew ?_ | refine blk_alloc ?_ _));refine blk_put (cs:=#[.string (⟨#[]⟩ : ByteArray),.int .i64 0,.bool x298002_1,.int .i64 x298003_1]) ?_ 2 _ rfl;(with_reducible repeat (first | refine blk_drewN ?_ _ | refine blk_drew ?_ | refine blk_alloc ?_ _));refine blk_put (cs:=#[.string (⟨#[]⟩ : ByteArray),.int .i64 x298001_1,.bool x298002_1,.int .i64 x298003_1]) ?_ 1 _ rfl;(with_reducible repeat (first | refine blk_drewN ?_ _ | refine blk_drew ?_ | refine blk_alloc ?_ _));refine blk_put (cs:=#[.string x298000_1,.int .i64 x298001_1,.bool x298002_1,.int .i64 x298003_1]) ?_ 0 _ rfl;(with_reducible repeat (first | refine blk_drewN ?_ _ | refine blk_drew ?_ | refine blk_alloc ?_ _));exact BK297.out) Try.underlying27 rfl (by kernel_rfl)) rfl ?_
    exact ⟨by first | rfl | (simp [errW_none,errW_some] <;> rfl) | (simp [*,errW_none,errW_some] <;> rfl),by repeat (first | (with_reducible first | exact HB.out | apply below_alloc | apply pw_below_drewN | apply below_drew1 | refine below_set ?_ GE297.out) | exact HB.out)⟩
   rw [if_pos c5] at H
   have c5b0 : decide (x12_1 < (l0.length : Int)) = true:=decide_eq_true c5
   clear c5
   by_cases c6 : 0 ≤ x12_1
   rotate_left
   ·rw [if_neg c6] at H
    exact absurd H (by simp)
   rw [if_pos c6] at H
   have c6b0 : decide (0 ≤ x12_1) = true:=decide_eq_true c6
   clear c6
   by_cases c7 : x12_1 < (l0.length : Int)
   rotate_left
   ·rw [if_neg c7] at H
    exact absurd H (by simp)
   rw [if_pos c7] at H
   have c7b0 : decide (x12_1 < (l0.length : Int)) = true:=decide_eq_true c7
   clear c7
   by_cases c8 : ((rd_T27 l0 x12_1).f0).toList = a1.toList
   rotate_left
   ·rw [if_neg c8] at H
    have c8b0 : (((rd_T27 l0 x12_1).f0).toList == a1.toList) = false:=beq_eq_false_iff_ne.mpr c8
    have c8b1 : (((rd_T27 l0 x12_1).f0).toList != a1.toList) = true:=bne_iff_ne.mpr c8
    have H':=Aside0.mk H
    clear H
    have p298 : 0 ≤ (x12_1 : Int):=of_decide_eq_true T9q1
    have q298 : x12_1 < (l0.length : Int):=of_decide_eq_true T9q1
    obtain ⟨ad298,e298,hx298_0,hx298_1,hx298_2,hx298_3⟩:=at_T27 HR0.out x12_1 p298 q298
    cases e298
    replace hx298_0:=(HB.out.cell (World.block_lt_of_cell? w _ hx298_0)).trans hx298_0
    replace hx298_1:=(HB.out.cell (World.block_lt_of_cell? w _ hx298_1)).trans hx298_1
    replace hx298_2:=(HB.out.cell (World.block_lt_of_cell? w _ hx298_2)).trans hx298_2
    replace hx298_3:=(HB.out.cell (World.block_lt_of_cell? w _ hx298_3)).trans hx298_3
    replace p298:=eq_true p298
    replace q298:=eq_true q298
    go_wp2_with (first | ((with_reducible refine gate_dst (N:=9) rfl ?_);refine box_event ?hg (N:=9) ?hd (cs:=#[.string (⟨#[]⟩ : ByteArray),.int .i64 0,.bool false,.int .i64 0]) (t:=27) ?hr ?_;(case hd => rfl);(case hg => rfl);(case hr => first | (go_simp;done) | (go_simp;rfl));intro gb299 hg w17 hbox hb;have n0_:=Aside0.mk (blk_below (g:=gb297) (o:=.cells #[.string x298000_1,.int .i64 x298001_1,.bool x298002_1,.int .i64 x298003_1] 27 (0,0)) T9q2 hb);have n1_:=Aside0.mk (below_step (by repeat (first | (with_reducible first | exact HB.out | apply below_alloc | apply pw_below_drewN | apply below_drew1 | refine below_set ?_ GE297.out) | exact HB.out)) hb);have n2_:=Aside0.mk (hbox);have n3_:=Aside0.mk ((by rw [hg];exact (below_size (by repeat (first | (with_reducible first | exact HB.out | apply below_alloc | apply pw_below_drewN | apply below_drew1 | refine below_set ?_ GE297.out) | exact HB.out))) : w.heap.size ≤ gb299));have n4_:=Aside0.mk ((by rw [hg];exact (below_size (by repeat (first | (with_reducible first | exact HB.out | apply below_alloc | apply pw_below_drewN | apply below_drew1 | refine below_set ?_ GE297.out) | exact HB.out))) : w.heap.size ≤ gb299));have n5_:=Aside0.mk ((by rw [hg];exact Nat.ne_of_lt (blk_lt (g:=gb297) (o:=.cells #[.string x298000_1,.int .i64 x298001_1,.bool x298002_1,.int .i64 x298003_1] 27 (0,0)) T9q2) : gb297 ≠ gb299));have n6_:=Aside0.mk ((by rw [hg];exact Nat.ne_of_gt (blk_lt (g:=gb297) (o:=.cells #[.string x298000_1,.int .i64 x298001_1,.bool x298002_1,.int .i64 x298003_1] 27 (0,0)) T9q2) : gb299 ≠ gb297));clear BK297;clear HB;have BK297:=n0_;have HB:=n1_;have BK299:=n2_;have GW299:=n3_;have GE299:=n4_;have NB297_299:=n5_;have NB299_297:=n6_;clear n0_ n1_ n2_ n3_ n4_ n5_ n6_;clear hb hbox hg;have hnb18:=NB299_297.out;have hnc18:=NB297_299.out;have hcz19_0 : w17.cell? ⟨gb299,0,none⟩ = some (.string (⟨#[]⟩ : ByteArray)):=(blk_cell BK299.out 0).trans rfl;have hcz19_1 : w17.cell? ⟨gb299,1,none⟩ = some (.int .i64 0):=(blk_cell BK299.out 1).trans rfl;have hcz19_2 : w17.cell? ⟨gb299,2,none⟩ = some (.bool false):=(blk_cell BK299.out 2).trans rfl;have hcz19_3 : w17.cell? ⟨gb299,3,none⟩ = some (.int .i64 0):=(blk_cell BK299.out 3).trans rfl;have hfz19_0:=blk_frozen BK299.out 0;have hfz19_1:=blk_frozen BK299.out 1;have hfz19_2:=blk_frozen BK299.out 2;have hfz19_3:=blk_frozen BK299.out 3))
    go_roundg k1
    case measure => have:=HK1.out;omega
    case rel => exact ⟨(wrap64 (x12_1 + 1)),(x298000_1),(x298001_1),(x298002_1),(x298003_1),(by first | rfl | (simp;done) | (simp [*];done)),H',⟨by have:=HK1.out;omega⟩,⟨by (with_reducible repeat (first | refine blk_drewN ?_ _ | refine blk_drew ?_ | refine blk_alloc ?_ _));refine blk_far ?_ NB297_299.out _;(with_reducible repeat (first | refine blk_drewN ?_ _ | refine blk_drew ?_ | refine blk_alloc ?_ _));refine blk_far ?_ NB297_299.out _;(with_reducible repeat (first | refine blk_drewN ?_ _ | refine blk_drew ?_ | refine blk_alloc ?_ _));refine blk_far ?_ NB297_299.out _;(with_reducible repeat (first | refine blk_drewN ?_ _ | refine blk_drew ?_ | refine blk_alloc ?_ _));refine blk_far ?_ NB297_299.out _;(with_reducible repeat (first | refine blk_drewN ?_ _ | refine blk_drew ?_ | refine blk_alloc ?_ _));exact BK297.out⟩,⟨by repeat (first | (with_reducible first | exact HB.out | apply below_alloc | apply pw_below_drewN | apply below_drew1 | refine below_set ?_ GE297.out | refine below_set ?_ GE299.out) | exact HB.out)⟩⟩
   rw [if_pos c8] at H
   have c8b0 : (((rd_T27 l0 x12_1).f0).toList == a1.toList) = true:=beq_iff_eq.mpr c8
   have c8b1 : (((rd_T27 l0 x12_1).f0).toList != a1.toList) = false:=bne_eq_false_iff_eq.mpr c8
   clear c8
   by_cases c9 : ((rd_T27 l0 x12_1).f3) ≤ a2
   rotate_left
   ·rw [if_neg c9] at H
    have c9b0 : decide (((rd_T27 l0 x12_1).f3) ≤ a2) = false:=decide_eq_false c9
    clear c9
    have H':=Aside0.mk H
    clear H
    have p298 : 0 ≤ (x12_1 : Int):=of_decide_eq_true T9q1
    have q298 : x12_1 < (l0.length : Int):=of_decide_eq_true T9q1
    obtain ⟨ad298,e298,hx298_0,hx298_1,hx298_2,hx298_3⟩:=at_T27 HR0.out x12_1 p298 q298
    cases e298
    replace hx298_0:=(HB.out.cell (World.block_lt_of_cell? w _ hx298_0)).trans hx298_0
    replace hx298_1:=(HB.out.cell (World.block_lt_of_cell? w _ hx298_1)).trans hx298_1
    replace hx298_2:=(HB.out.cell (World.block_lt_of_cell? w _ hx298_2)).trans hx298_2
    replace hx298_3:=(HB.out.cell (World.block_lt_of_cell? w _ hx298_3)).trans hx298_3
    replace p298:=eq_true p298
    replace q298:=eq_true q298
    go_wp2_with (first | ((with_reducible refine gate_dst (N:=9) rfl ?_);refine box_event ?hg (N:=9) ?hd (cs:=#[.string (⟨#[]⟩ : ByteArray),.int .i64 0,.bool false,.int .i64 0]) (t:=27) ?hr ?_;(case hd => rfl);(case hg => rfl);(case hr => first | (go_simp;done) | (go_simp;rfl));intro gb299 hg w14 hbox hb;have n0_:=Aside0.mk (blk_below (g:=gb297) (o:=.cells #[.string x298000_1,.int .i64 x298001_1,.bool x298002_1,.int .i64 x298003_1] 27 (0,0)) T9q2 hb);have n1_:=Aside0.mk (below_step (by repeat (first | (with_reducible first | exact HB.out | apply below_alloc | apply pw_below_drewN | apply below_drew1 | refine below_set ?_ GE297.out) | exact HB.out)) hb);have n2_:=Aside0.mk (hbox);have n3_:=Aside0.mk ((by rw [hg];exact (below_size (by repeat (first | (with_reducible first | exact HB.out | apply below_alloc | apply pw_below_drewN | apply below_drew1 | refine below_set ?_ GE297.out) | exact HB.out))) : w.heap.size ≤ gb299));have n4_:=Aside0.mk ((by rw [hg];exact (below_size (by repeat (first | (with_reducible first | exact HB.out | apply below_alloc | apply pw_below_drewN | apply below_drew1 | refine below_set ?_ GE297.out) | exact HB.out))) : w.heap.size ≤ gb299));have n5_:=Aside0.mk ((by rw [hg];exact Nat.ne_of_lt (blk_lt (g:=gb297) (o:=.cells #[.string x298000_1,.int .i64 x298001_1,.bool x298002_1,.int .i64 x298003_1] 27 (0,0)) T9q2) : gb297 ≠ gb299));have n6_:=Aside0.mk ((by rw [hg];exact Nat.ne_of_gt (blk_lt (g:=gb297) (o:=.cells #[.string x298000_1,.int .i64 x298001_1,.bool x298002_1,.int .i64 x298003_1] 27 (0,0)) T9q2) : gb299 ≠ gb297));clear BK297;clear HB;have BK297:=n0_;have HB:=n1_;have BK299:=n2_;have GW299:=n3_;have GE299:=n4_;have NB297_299:=n5_;have NB299_297:=n6_;clear n0_ n1_ n2_ n3_ n4_ n5_ n6_;clear hb hbox hg;have hnb15:=NB299_297.out;have hnc15:=NB297_299.out;have hcz16_0 : w14.cell? ⟨gb299,0,none⟩ = some (.string (⟨#[]⟩ : ByteArray)):=(blk_cell BK299.out 0).trans rfl;have hcz16_1 : w14.cell? ⟨gb299,1,none⟩ = some (.int .i64 0):=(blk_cell BK299.out 1).trans rfl;have hcz16_2 : w14.cell? ⟨gb299,2,none⟩ = some (.bool false):=(blk_cell BK299.out 2).trans rfl;have hcz16_3 : w14.cell? ⟨gb299,3,none⟩ = some (.int .i64 0):=(blk_cell BK299.out 3).trans rfl;have hfz16_0:=blk_frozen BK299.out 0;have hfz16_1:=blk_frozen BK299.out 1;have hfz16_2:=blk_frozen BK299.out 2;have hfz16_3:=blk_frozen BK299.out 3))
    go_roundg k1
    case measure => have:=HK1.out;omega
    case rel => exact ⟨(wrap64 (x12_1 + 1)),(x298000_1),(x298001_1),(x298002_1),(x298003_1),(by first | rfl | (simp;done) | (simp [*];done)),H',⟨by have:=HK1.out;omega⟩,⟨by (with_reducible repeat (first | refine blk_drewN ?_ _ | refine blk_drew ?_ | refine blk_alloc ?_ _));refine blk_far ?_ NB297_299.out _;(with_reducible repeat (first | refine blk_drewN ?_ _ | refine blk_drew ?_ | refine blk_alloc ?_ _));refine blk_far ?_ NB297_299.out _;(with_reducible repeat (first | refine blk_drewN ?_ _ | refine blk_drew ?_ | refine blk_alloc ?_ _));refine blk_far ?_ NB297_299.out _;(with_reducible repeat (first | refine blk_drewN ?_ _ | refine blk_drew ?_ | refine blk_alloc ?_ _));refine blk_far ?_ NB297_299.out _;(with_reducible repeat (first | refine blk_drewN ?_ _ | refine blk_drew ?_ | refine blk_alloc ?_ _));exact BK297.out⟩,⟨by repeat (first | (with_reducible first | exact HB.out | apply below_alloc | apply pw_below_drewN | apply below_drew1 | refine below_set ?_ GE297.out | refine below_set ?_ GE299.out) | exact HB.out)⟩⟩
   rw [if_pos c9] at H
   have c9b0 : decide (((rd_T27 l0 x12_1).f3) ≤ a2) = true:=decide_eq_true c9
   clear c9
   simp only [Option.some.injEq,Prod.mk.injEq] at H
   obtain ⟨rfl,rfl,rfl,rfl,rfl⟩:=H
   have p298 : 0 ≤ (x12_1 : Int):=of_decide_eq_true T9q1
   have q298 : x12_1 < (l0.length : Int):=of_decide_eq_true T9q1
   obtain ⟨ad298,e298,hx298_0,hx298_1,hx298_2,hx298_3⟩:=at_T27 HR0.out x12_1 p298 q298
   cases e298
   replace hx298_0:=(HB.out.cell (World.block_lt_of_cell? w _ hx298_0)).trans hx298_0
   replace hx298_1:=(HB.out.cell (World.block_lt_of_cell? w _ hx298_1)).trans hx298_1
   replace hx298_2:=(HB.out.cell (World.block_lt_of_cell? w _ hx298_2)).trans hx298_2
   replace hx298_3:=(HB.out.cell (World.block_lt_of_cell? w _ hx298_3)).trans hx298_3
   replace p298:=eq_true p298
   replace q298:=eq_true q298
   go_wp2_with (first | ((with_reducible refine gate_dst (N:=9) rfl ?_);refine box_event ?hg (N:=9) ?hd (cs:=#[.string (⟨#[]⟩ : ByteArray),.int .i64 0,.bool false,.int .i64 0]) (t:=27) ?hr ?_;(case hd => rfl);(case hg => rfl);(case hr => first | (go_simp;done) | (go_simp;rfl));intro gb299 hg w10 hbox hb;have n0_:=Aside0.mk (blk_below (g:=gb297) (o:=.cells #[.string x298000_1,.int .i64 x298001_1,.bool x298002_1,.int .i64 x298003_1] 27 (0,0)) T9q2 hb);have n1_:=Aside0.mk (below_step (by repeat (first | (with_reducible first | exact HB.out | apply below_alloc | apply pw_below_drewN | apply below_drew1 | refine below_set ?_ GE297.out) | exact HB.out)) hb);have n2_:=Aside0.mk (hbox);have n3_:=Aside0.mk ((by rw [hg];exact (below_size (by repeat (first | (with_reducible first | exact HB.out | apply below_alloc | apply pw_below_drewN | apply below_drew1 | refine below_set ?_ GE297.out) | exact HB.out))) : w.heap.size ≤ gb299));have n4_:=Aside0.mk ((by rw [hg];exact (below_size (by repeat (first | (with_reducible first | exact HB.out | apply below_alloc | apply pw_below_drewN | apply below_drew1 | refine below_set ?_ GE297.out) | exact HB.out))) : w.heap.size ≤ gb299));have n5_:=Aside0.mk ((by rw [hg];exact Nat.ne_of_lt (blk_lt (g:=gb297) (o:=.cells #[.string x298000_1,.int .i64 x298001_1,.bool x298002_1,.int .i64 x298003_1] 27 (0,0)) T9q2) : gb297 ≠ gb299));have n6_:=Aside0.mk ((by rw [hg];exact Nat.ne_of_gt (blk_lt (g:=gb297) (o:=.cells #[.string x298000_1,.int .i64 x298001_1,.bool x298002_1,.int .i64 x298003_1] 27 (0,0)) T9q2) : gb299 ≠ gb297));clear BK297;clear HB;have BK297:=n0_;have HB:=n1_;have BK299:=n2_;have GW299:=n3_;have GE299:=n4_;have NB297_299:=n5_;have NB299_297:=n6_;clear n0_ n1_ n2_ n3_ n4_ n5_ n6_;clear hb hbox hg;have hnb11:=NB299_297.out;have hnc11:=NB297_299.out;have hcz12_0 : w10.cell? ⟨gb299,0,none⟩ = some (.string (⟨#[]⟩ : ByteArray)):=(blk_cell BK299.out 0).trans rfl;have hcz12_1 : w10.cell? ⟨gb299,1,none⟩ = some (.int .i64 0):=(blk_cell BK299.out 1).trans rfl;have hcz12_2 : w10.cell? ⟨gb299,2,none⟩ = some (.bool false):=(blk_cell BK299.out 2).trans rfl;have hcz12_3 : w10.cell? ⟨gb299,3,none⟩ = some (.int .i64 0):=(blk_cell BK299.out 3).trans rfl;have hfz12_0:=blk_frozen BK299.out 0;have hfz12_1:=blk_frozen BK299.out 1;have hfz12_2:=blk_frozen BK299.out 2;have hfz12_3:=blk_frozen BK299.out 3;have hcz13_0 : w10.cell? ⟨gb297,0,none⟩ = some (.string x298000_1):=(blk_cell BK297.out 0).trans rfl;have hcz13_1 : w10.cell? ⟨gb297,1,none⟩ = some (.int .i64 x298001_1):=(blk_cell BK297.out 1).trans rfl;have hcz13_2 : w10.cell? ⟨gb297,2,none⟩ = some (.bool x298002_1):=(blk_cell BK297.out 2).trans rfl;have hcz13_3 : w10.cell? ⟨gb297,3,none⟩ = some (.int .i64 x298003_1):=(blk_cell BK297.out 3).trans rfl;have hfz13_0:=blk_frozen BK297.out 0;have hfz13_1:=blk_frozen BK297.out 1;have hfz13_2:=blk_frozen BK297.out 2;have hfz13_3:=blk_frozen BK297.out 3))
   refine bodyPost_ret (results_ct rfl _ _ gb297 27 #[.string ((rd_T27 l0 x12_1).f0),.int .i64 ((rd_T27 l0 x12_1).f1),.bool ((rd_T27 l0 x12_1).f2),.int .i64 ((rd_T27 l0 x12_1).f3)] (0,0) _ rfl (by (with_reducible repeat (first | refine blk_drewN ?_ _ | refine blk_drew ?_ | refine blk_alloc ?_ _));refine blk_put (cs:=#[.string ((rd_T27 l0 x12_1).f0),.int .i64 ((rd_T27 l0 x12_1).f1),.bool ((rd_T27 l0 x12_1).f2),.int .i64 x298003_1]) ?_ 3 _ rfl;(with_reducible repeat (first | refine blk_drewN ?_ _ | refine blk_drew ?_ | refine blk_alloc ?_ _));refine blk_put (cs:=#[.string ((rd_T27 l0 x12_1).f0),.int .i64 ((rd_T27 l0 x12_1).f1),.bool x298002_1,.int .i64 x298003_1]) ?_ 2 _ rfl;(with_reducible repeat (first | refine blk_drewN ?_ _ | refine blk_drew ?_ | refine blk_alloc ?_ _));refine blk_put (cs:=#[.string ((rd_T27 l0 x12_1).f0),.int .i64 x298001_1,.bool x298002_1,.int .i64 x298003_1]) ?_ 1 _ rfl;(with_reducible repeat (first | refine blk_drewN ?_ _ | refine blk_drew ?_ | refine blk_alloc ?_ _));refine blk_put (cs:=#[.string x298000_1,.int .i64 x298001_1,.bool x298002_1,.int .i64 x298003_1]) ?_ 0 _ rfl;(with_reducible repeat (first | refine blk_drewN ?_ _ | refine blk_drew ?_ | refine blk_alloc ?_ _));refine blk_far ?_ NB297_299.out _;(with_reducible repeat (first | refine blk_drewN ?_ _ | refine blk_drew ?_ | refine blk_alloc ?_ _));refine blk_far ?_ NB297_299.out _;(with_reducible repeat (first | refine blk_drewN ?_ _ | refine blk_drew ?_ | refine blk_alloc ?_ _));refine blk_far ?_ NB297_299.out _;(with_reducible repeat (first | refine blk_drewN ?_ _ | refine blk_drew ?_ | refine blk_alloc ?_ _));refine blk_far ?_ NB297_299.out _;(with_reducible repeat (first | refine blk_drewN ?_ _ | refine blk_drew ?_ | refine blk_alloc ?_ _));exact BK297.out) Try.underlying27 rfl (by kernel_rfl)) rfl ?_
   exact ⟨by first | rfl | (simp [errW_none,errW_some] <;> rfl) | (simp [*,errW_none,errW_some] <;> rfl),by repeat (first | (with_reducible first | exact HB.out | apply below_alloc | apply pw_below_drewN | apply below_drew1 | refine below_set ?_ GE297.out | refine below_set ?_ GE299.out) | exact HB.out)⟩
/-! ### impl_RunAt: function 17 -/
def impl_RunAt.f (k : Nat) (l0 : List (S27)) (a1 : ByteArray) (a2 : Int) : Option (ByteArray × Int × Bool × Int × Bool):=(impl_RunOk.f k l0).bind fun t301 => (if t301 = true then ((impl_at.f k l0 a1 a2).bind fun bt302 => (some (bt302.1,bt302.2.1,bt302.2.2.1,bt302.2.2.2.1,bt302.2.2.2.2))) else (some ((⟨#[]⟩ : ByteArray),0,false,0,false)))
set_option maxHeartbeats 8000000 in
set_option maxRecDepth 100000 in
theorem impl_RunAt.calls (k : Nat) (A0 : Option Addr) (c0 : Nat) (l0 : List (S27)) (a1 : ByteArray) (a2 : Int) (r1 : ByteArray) (r2 : Int) (r3 : Bool) (r4 : Int) (r5 : Bool) (w : World) (hr0 : Kd.C k27 w A0 l0.length l0) (hc0 : l0.length ≤ c0) (h : impl_RunAt.f k l0 a1 a2 = some (r1,r2,r3,r4,r5)) :
  Calls Try.prog 17 #[.slice A0 l0.length c0,.string a1,.int .i64 a2] w fun e w' => e = .returned (.tuple #[.agg #[.string r1,.int .i64 r2,.bool r3,.int .i64 r4],.bool r5]) ∧ Below w.heap.size w w':=by
 have hu27:=Try.underlying27
 have HR0:=Aside0.mk hr0
 have HC0:=Aside0.mk hc0
 clear hr0 hc0
 have HB:=Aside0.mk (Below.refl w.heap.size w)
 have H : ((impl_RunOk.f k l0).bind fun t301 => (if t301 = true then ((impl_at.f k l0 a1 a2).bind fun bt302 => (some (bt302.1,bt302.2.1,bt302.2.2.1,bt302.2.2.2.1,bt302.2.2.2.2))) else (some ((⟨#[]⟩ : ByteArray),0,false,0,false)))) = some (r1,r2,r3,r4,r5):=h
 clear h
 replace H:=Option.bind_eq_some_iff.mp H
 obtain ⟨t301,A40,H⟩:=H
 replace H : (if t301 = true then ((impl_at.f k l0 a1 a2).bind fun bt302 => (some (bt302.1,bt302.2.1,bt302.2.2.1,bt302.2.2.2.1,bt302.2.2.2.2))) else (some ((⟨#[]⟩ : ByteArray),0,false,0,false))) = some (r1,r2,r3,r4,r5):=H
 have A4:=Aside0.mk A40
 clear A40
 by_cases c5 : t301 = true
 rotate_left
 ·replace c5:=Bool.eq_false_iff.mpr c5
  subst c5
  have H1 : (some ((⟨#[]⟩ : ByteArray),0,false,0,false)) = some (r1,r2,r3,r4,r5):=by rw [if_neg (show ¬ (false = true) by decide)] at H;exact H
  clear H
  have H:=H1
  clear H1
  simp only [Option.some.injEq,Prod.mk.injEq] at H
  obtain ⟨rfl,rfl,rfl,rfl,rfl⟩:=H
  go_enter Try.func17,Try.ntmps17
  go_wp2_with (first | ((with_reducible refine gate_dst (N:=6) rfl ?_);refine box_event ?hg (N:=6) ?hd (cs:=#[.string (⟨#[]⟩ : ByteArray),.int .i64 0,.bool false,.int .i64 0]) (t:=27) ?hr ?_;(case hd => rfl);(case hg => rfl);(case hr => first | (go_simp;done) | (go_simp;rfl));intro gb300 hg w11 hbox hb;have n0_:=Aside0.mk (below_step (by repeat (first | (with_reducible first | exact HB.out | apply below_alloc | apply pw_below_drewN | apply below_drew1) | exact HB.out)) hb);have n1_:=Aside0.mk (hbox);have n2_:=Aside0.mk ((by rw [hg];exact (below_size (by repeat (first | (with_reducible first | exact HB.out | apply below_alloc | apply pw_below_drewN | apply below_drew1) | exact HB.out))) : w.heap.size ≤ gb300));have n3_:=Aside0.mk ((by rw [hg];exact (below_size (by repeat (first | (with_reducible first | exact HB.out | apply below_alloc | apply pw_below_drewN | apply below_drew1) | exact HB.out))) : w.heap.size ≤ gb300));clear HB;have HB:=n0_;have BK300:=n1_;have GW300:=n2_;have GE300:=n3_;clear n0_ n1_ n2_ n3_;clear hb hbox hg) | ((with_reducible refine gate_callee (f:=28) rfl ?_);refine goesL_ (some 9) rfl rfl Try.func28 (by kernel_rfl) rfl #[.slice A0 l0.length c0] rfl T9q3 ?_;(with_reducible refine (impl_RunOk.calls k _ _ l0 false _ ?side1 ?side2 A4.out).mono ?_);(case side1 => repeat (first | exact (Kd.C_below HR0.out HB.out) | (with_reducible refine Kd.C_alloc ?_ _) | (with_reducible refine Kd.C_drewN ?_ _) | (with_reducible refine Kd.C_drew ?_)));(case side2 => exact HC0.out);rintro e w12 ⟨rfl,hb⟩;refine ⟨_,rfl,?_⟩;have n0_:=Aside0.mk (blk_below (g:=gb300) (o:=.cells #[.string (⟨#[]⟩ : ByteArray),.int .i64 0,.bool false,.int .i64 0] 27 (0,0)) T9q4 hb);have n1_:=Aside0.mk (below_step (by repeat (first | (with_reducible first | exact HB.out | apply below_alloc | apply pw_below_drewN | apply below_drew1 | refine below_set ?_ GE300.out) | exact HB.out)) hb);clear BK300;clear HB;have BK300:=n0_;have HB:=n1_;clear n0_ n1_;(try clear hb);(try clear hb2);(try clear hk);(try clear hi);have hcz13_0 : w12.cell? ⟨gb300,0,none⟩ = some (.string (⟨#[]⟩ : ByteArray)):=(blk_cell BK300.out 0).trans rfl;have hcz13_1 : w12.cell? ⟨gb300,1,none⟩ = some (.int .i64 0):=(blk_cell BK300.out 1).trans rfl;have hcz13_2 : w12.cell? ⟨gb300,2,none⟩ = some (.bool false):=(blk_cell BK300.out 2).trans rfl;have hcz13_3 : w12.cell? ⟨gb300,3,none⟩ = some (.int .i64 0):=(blk_cell BK300.out 3).trans rfl;have hfz13_0:=blk_frozen BK300.out 0;have hfz13_1:=blk_frozen BK300.out 1;have hfz13_2:=blk_frozen BK300.out 2;have hfz13_3:=blk_frozen BK300.out 3))
  refine bodyPost_ret (results_ct rfl _ _ gb300 27 #[.string (⟨#[]⟩ : ByteArray),.int .i64 0,.bool false,.int .i64 0] (0,0) _ rfl (by (with_reducible repeat (first | refine blk_drewN ?_ _ | refine blk_drew ?_ | refine blk_alloc ?_ _));refine blk_put (cs:=#[.string (⟨#[]⟩ : ByteArray),.int .i64 0,.bool false,.int .i64 0]) ?_ 3 _ rfl;(with_reducible repeat (first | refine blk_drewN ?_ _ | refine blk_drew ?_ | refine blk_alloc ?_ _));refine blk_put (cs:=#[.string (⟨#[]⟩ : ByteArray),.int .i64 0,.bool false,.int .i64 0]) ?_ 2 _ rfl;(with_reducible repeat (first | refine blk_drewN ?_ _ | refine blk_drew ?_ | refine blk_alloc ?_ _));refine blk_put (cs:=#[.string (⟨#[]⟩ : ByteArray),.int .i64 0,.bool false,.int .i64 0]) ?_ 1 _ rfl;(with_reducible repeat (first | refine blk_drewN ?_ _ | refine blk_drew ?_ | refine blk_alloc ?_ _));refine blk_put (cs:=#[.string (⟨#[]⟩ : ByteArray),.int .i64 0,.bool false,.int .i64 0]) ?_ 0 _ rfl;(with_reducible repeat (first | refine blk_drewN ?_ _ | refine blk_drew ?_ | refine blk_alloc ?_ _));exact BK300.out) Try.underlying27 rfl (by kernel_rfl)) rfl ?_
  exact ⟨by first | rfl | (simp [errW_none,errW_some] <;> rfl) | (simp [*,errW_none,errW_some] <;> rfl),by repeat (first | (with_reducible first | exact HB.out | apply below_alloc | apply pw_below_drewN | apply below_drew1 | refine below_set ?_ GE300.out) | exact HB.out)⟩
 subst c5
 have H1 : ((impl_at.f k l0 a1 a2).bind fun bt302 => (some (bt302.1,bt302.2.1,bt302.2.2.1,bt302.2.2.2.1,bt302.2.2.2.2))) = some (r1,r2,r3,r4,r5):=by rw [if_pos rfl] at H;exact H
 clear H
 have H:=H1
 clear H1
 replace H:=Option.bind_eq_some_iff.mp H
 obtain ⟨⟨t302,t303,t304,t305,t306⟩,A60,H⟩:=H
 replace H : (some (t302,t303,t304,t305,t306)) = some (r1,r2,r3,r4,r5):=H
 have A6:=Aside0.mk A60
 clear A60
 simp only [Option.some.injEq,Prod.mk.injEq] at H
 obtain ⟨rfl,rfl,rfl,rfl,rfl⟩:=H
 go_enter Try.func17,Try.ntmps17
 go_wp2_with (first | ((with_reducible refine gate_dst (N:=6) rfl ?_);refine box_event ?hg (N:=6) ?hd (cs:=#[.string (⟨#[]⟩ : ByteArray),.int .i64 0,.bool false,.int .i64 0]) (t:=27) ?hr ?_;(case hd => rfl);(case hg => rfl);(case hr => first | (go_simp;done) | (go_simp;rfl));intro gb300 hg w7 hbox hb;have n0_:=Aside0.mk (below_step (by repeat (first | (with_reducible first | exact HB.out | apply below_alloc | apply pw_below_drewN | apply below_drew1) | exact HB.out)) hb);have n1_:=Aside0.mk (hbox);have n2_:=Aside0.mk ((by rw [hg];exact (below_size (by repeat (first | (with_reducible first | exact HB.out | apply below_alloc | apply pw_below_drewN | apply below_drew1) | exact HB.out))) : w.heap.size ≤ gb300));have n3_:=Aside0.mk ((by rw [hg];exact (below_size (by repeat (first | (with_reducible first | exact HB.out | apply below_alloc | apply pw_below_drewN | apply below_drew1) | exact HB.out))) : w.heap.size ≤ gb300));clear HB;have HB:=n0_;have BK300:=n1_;have GW300:=n2_;have GE300:=n3_;clear n0_ n1_ n2_ n3_;clear hb hbox hg) | ((with_reducible refine gate_callee (f:=28) rfl ?_);refine goesL_ (some 9) rfl rfl Try.func28 (by kernel_rfl) rfl #[.slice A0 l0.length c0] rfl T9q3 ?_;(with_reducible refine (impl_RunOk.calls k _ _ l0 true _ ?side1 ?side2 A4.out).mono ?_);(case side1 => repeat (first | exact (Kd.C_below HR0.out HB.out) | (with_reducible refine Kd.C_alloc ?_ _) | (with_reducible refine Kd.C_drewN ?_ _) | (with_reducible refine Kd.C_drew ?_)));(case side2 => exact HC0.out);rintro e w8 ⟨rfl,hb⟩;refine ⟨_,rfl,?_⟩;have n0_:=Aside0.mk (blk_below (g:=gb300) (o:=.cells #[.string (⟨#[]⟩ : ByteArray),.int .i64 0,.bool false,.int .i64 0] 27 (0,0)) T9q4 hb);have n1_:=Aside0.mk (below_step (by repeat (first | (with_reducible first | exact HB.out | apply below_alloc | apply pw_below_drewN | apply below_drew1 | refine below_set ?_ GE300.out) | exact HB.out)) hb);clear BK300;clear HB;have BK300:=n0_;have HB:=n1_;clear n0_ n1_;(try clear hb);(try clear hb2);(try clear hk);(try clear hi)) | ((with_reducible refine gate_callee (f:=40) rfl ?_);refine goesL_ (some 15) rfl rfl Try.func40 (by kernel_rfl) rfl #[.slice A0 l0.length c0,.string a1,.int .i64 a2] rfl T9q3 ?_;(with_reducible refine (impl_at.calls k _ _ l0 a1 a2 t302 t303 t304 t305 t306 _ ?side1 ?side2 A6.out).mono ?_);(case side1 => repeat (first | exact (Kd.C_below HR0.out HB.out) | (with_reducible refine Kd.C_alloc ?_ _) | (with_reducible refine Kd.C_drewN ?_ _) | (with_reducible refine Kd.C_drew ?_)));(case side2 => exact HC0.out);rintro e w9 ⟨rfl,hb⟩;refine ⟨_,rfl,?_⟩;have n0_:=Aside0.mk (blk_below (g:=gb300) (o:=.cells #[.string (⟨#[]⟩ : ByteArray),.int .i64 0,.bool false,.int .i64 0] 27 (0,0)) T9q4 hb);have n1_:=Aside0.mk (below_step (by repeat (first | (with_reducible first | exact HB.out | apply below_alloc | apply pw_below_drewN | apply below_drew1 | refine below_set ?_ GE300.out) | exact HB.out)) hb);clear BK300;clear HB;have BK300:=n0_;have HB:=n1_;clear n0_ n1_;(try clear hb);(try clear hb2);(try clear hk);(try clear hi);have hcz10_0 : w9.cell? ⟨gb300,0,none⟩ = some (.string (⟨#[]⟩ : ByteArray)):=(blk_cell BK300.out 0).trans rfl;have hcz10_1 : w9.cell? ⟨gb300,1,none⟩ = some (.int .i64 0):=(blk_cell BK300.out 1).trans rfl;have hcz10_2 : w9.cell? ⟨gb300,2,none⟩ = some (.bool false):=(blk_cell BK300.out 2).trans rfl;have hcz10_3 : w9.cell? ⟨gb300,3,none⟩ = some (.int .i64 0):=(blk_cell BK300.out 3).trans rfl;have hfz10_0:=blk_frozen BK300.out 0;have hfz10_1:=blk_frozen BK300.out 1;have hfz10_2:=blk_frozen BK300.out 2;have hfz10_3:=blk_frozen BK300.out 3))
 refine bodyPost_ret (results_ct rfl _ _ gb300 27 #[.string t302,.int .i64 t303,.bool t304,.int .i64 t305] (0,0) _ rfl (by (with_reducible repeat (first | refine blk_drewN ?_ _ | refine blk_drew ?_ | refine blk_alloc ?_ _));refine blk_put (cs:=#[.string t302,.int .i64 t303,.bool t304,.int .i64 0]) ?_ 3 _ rfl;(with_reducible repeat (first | refine blk_drewN ?_ _ | refine blk_drew ?_ | refine blk_alloc ?_ _));refine blk_put (cs:=#[.string t302,.int .i64 t303,.bool false,.int .i64 0]) ?_ 2 _ rfl;(with_reducible repeat (first | refine blk_drewN ?_ _ | refine blk_drew ?_ | refine blk_alloc ?_ _));refine blk_put (cs:=#[.string t302,.int .i64 0,.bool false,.int .i64 0]) ?_ 1 _ rfl;(with_reducible repeat (first | refine blk_drewN ?_ _ | refine blk_drew ?_ | refine blk_alloc ?_ _));refine blk_put (cs:=#[.string (⟨#[]⟩ : ByteArray),.int .i64 0,.bool false,.int .i64 0]) ?_ 0 _ rfl;(with_reducible repeat (first | refine blk_drewN ?_ _ | refine blk_drew ?_ | refine blk_alloc ?_ _));exact BK300.out) Try.underlying27 rfl (by kernel_rfl)) rfl ?_
 exact ⟨by first | rfl | (simp [errW_none,errW_some] <;> rfl) | (simp [*,errW_none,errW_some] <;> rfl),by repeat (first | (with_reducible first | exact HB.out | apply below_alloc | apply pw_below_drewN | apply below_drew1 | refine below_set ?_ GE300.out) | exact HB.out)⟩
/-! ### laws_ltRuns: function 21 -/
def laws_ltRuns.l0 : Nat → List (S27) → List (S27) → Int → Option (Bool)
 | 0,_,_,_ => none
 | k + 1,x0,x1,x5 => if x5 < (x0.length : Int) then (if 0 ≤ x5 then (if x5 < (x1.length : Int) then (if (!((((rd_T27 x0 x5).f0).toList) == (((rd_T27 x1 x5).f0).toList)) || (!(((rd_T27 x0 x5).f1) == ((rd_T27 x1 x5).f1)) || (!(((rd_T27 x0 x5).f2) == ((rd_T27 x1 x5).f2)) || (!(((rd_T27 x0 x5).f3) == ((rd_T27 x1 x5).f3)))))) = true then (some false) else (laws_ltRuns.l0 k x0 x1 (wrap64 (x5 + 1)))) else (none)) else (none)) else (some true)
def laws_ltRuns.f (k : Nat) (l0 : List (S27)) (l1 : List (S27)) : Option (Bool):=if (l0.length : Int) = (l1.length : Int) then (laws_ltRuns.l0 k l0 l1 0) else (some false)
set_option maxHeartbeats 8000000 in
set_option maxRecDepth 100000 in
theorem laws_ltRuns.calls (k : Nat) (A0 : Option Addr) (c0 : Nat) (l0 : List (S27)) (A1 : Option Addr) (c1 : Nat) (l1 : List (S27)) (r : Bool) (w : World) (hr0 : Kd.C k27 w A0 l0.length l0) (hc0 : l0.length ≤ c0) (hr1 : Kd.C k27 w A1 l1.length l1) (hc1 : l1.length ≤ c1) (h : laws_ltRuns.f k l0 l1 = some r) :
  Calls Try.prog 21 #[.slice A0 l0.length c0,.slice A1 l1.length c1] w fun e w' => e = .returned (.bool r) ∧ Drawn0 w w':=by
 have hu27:=Try.underlying27
 have HR0:=Aside0.mk hr0
 have HC0:=Aside0.mk hc0
 clear hr0 hc0
 have HR1:=Aside0.mk hr1
 have HC1:=Aside0.mk hc1
 clear hr1 hc1
 have H : (if (l0.length : Int) = (l1.length : Int) then (laws_ltRuns.l0 k l0 l1 0) else (some false)) = some r:=h
 clear h
 by_cases c3 : (l0.length : Int) = (l1.length : Int)
 rotate_left
 ·rw [if_neg c3] at H
  have c3b0 : ((l0.length : Int) == (l1.length : Int)) = false:=beq_eq_false_iff_ne.mpr c3
  have c3b1 : ((l0.length : Int) != (l1.length : Int)) = true:=bne_iff_ne.mpr c3
  have c3b2 : (l0.length == l1.length) = false:=by first | simpa using c3 | (simp at c3 ⊢;omega)
  obtain rfl:=Option.some.inj H
  go_enter Try.func21,Try.ntmps21
  go_wp2
  repeat (go_quiet (fail);try go_wp2)
  go_ret
  exact ⟨by first | rfl | (simp;done) | (simp [*];done),by repeat (first | exact Drawn0.refl _ | apply Drawn0.step)⟩
 rw [if_pos c3] at H
 have c3b0 : ((l0.length : Int) == (l1.length : Int)) = true:=beq_iff_eq.mpr c3
 have c3b1 : ((l0.length : Int) != (l1.length : Int)) = false:=bne_eq_false_iff_eq.mpr c3
 have c3b2 : (l0.length == l1.length) = true:=by first | simpa using c3 | (simp at c3 ⊢;omega)
 clear c3
 have H':=Aside0.mk H
 clear H
 go_enter Try.func21,Try.ntmps21
 go_wp2
 repeat (go_quiet (fail);try go_wp2)
 go_loopg [5] k (fun kq v5 w' => ∃ (x5_1 : Int),v5 = .int .i64 x5_1 ∧ Aside0 (laws_ltRuns.l0 kq l0 l1 x5_1 = some r) ∧ Aside0 (kq ≤ k) ∧ Drawn0 w w')
 case atStart => exact ⟨(0),(by first | rfl | (simp;done) | (simp [*];done)),H',⟨Nat.le_refl _⟩,by repeat (first | exact Drawn0.refl _ | apply Drawn0.step)⟩
 case round =>
  clear H'
  try clear c1
  try clear c2
  try clear p2
  try clear c3
  try clear c3b0
  try clear c3b1
  try clear c3b2
  obtain ⟨x5_1,rfl,HA,HK1,⟨m1,rfl⟩⟩:=hrel
  cases gk with
  | zero => exact absurd HA.out (by simp [laws_ltRuns.l0])
  | succ k1 =>
   have H:=HA.out
   clear HA
   simp only [laws_ltRuns.l0] at H
   by_cases c4 : x5_1 < (l0.length : Int)
   rotate_left
   ·rw [if_neg c4] at H
    have c4b0 : decide (x5_1 < (l0.length : Int)) = false:=decide_eq_false c4
    clear c4
    obtain rfl:=Option.some.inj H
    go_wp2
    repeat (go_quiet (fail);try go_wp2)
    go_ret
    exact ⟨by first | rfl | (simp;done) | (simp [*];done),by repeat (first | exact Drawn0.refl _ | apply Drawn0.step)⟩
   rw [if_pos c4] at H
   have c4b0 : decide (x5_1 < (l0.length : Int)) = true:=decide_eq_true c4
   clear c4
   by_cases c5 : 0 ≤ x5_1
   rotate_left
   ·rw [if_neg c5] at H
    exact absurd H (by simp)
   rw [if_pos c5] at H
   have c5b0 : decide (0 ≤ x5_1) = true:=decide_eq_true c5
   clear c5
   by_cases c6 : x5_1 < (l1.length : Int)
   rotate_left
   ·rw [if_neg c6] at H
    exact absurd H (by simp)
   rw [if_pos c6] at H
   have c6b0 : decide (x5_1 < (l1.length : Int)) = true:=decide_eq_true c6
   clear c6
   by_cases c7 : (!((((rd_T27 l0 x5_1).f0).toList) == (((rd_T27 l1 x5_1).f0).toList)) || (!(((rd_T27 l0 x5_1).f1) == ((rd_T27 l1 x5_1).f1)) || (!(((rd_T27 l0 x5_1).f2) == ((rd_T27 l1 x5_1).f2)) || (!(((rd_T27 l0 x5_1).f3) == ((rd_T27 l1 x5_1).f3)))))) = true
   ·rw [if_pos c7] at H
    have c7b0 : (!((((rd_T27 l0 x5_1).f0).toList) == (((rd_T27 l1 x5_1).f0).toList)) || (!(((rd_T27 l0 x5_1).f1) == ((rd_T27 l1 x5_1).f1)) || (!(((rd_T27 l0 x5_1).f2) == ((rd_T27 l1 x5_1).f2)) || (!(((rd_T27 l0 x5_1).f3) == ((rd_T27 l1 x5_1).f3)))))) = true:=c7
    clear c7
    obtain rfl:=Option.some.inj H
    have p307 : 0 ≤ (x5_1 : Int):=of_decide_eq_true T9q1
    have q307 : x5_1 < (l0.length : Int):=of_decide_eq_true T9q1
    obtain ⟨ad307,e307,hx307_0,hx307_1,hx307_2,hx307_3⟩:=at_T27 HR0.out x5_1 p307 q307
    cases e307
    replace p307:=eq_true p307
    replace q307:=eq_true q307
    have p308 : 0 ≤ (x5_1 : Int):=of_decide_eq_true T9q1
    have q308 : x5_1 < (l1.length : Int):=of_decide_eq_true T9q1
    obtain ⟨ad308,e308,hx308_0,hx308_1,hx308_2,hx308_3⟩:=at_T27 HR1.out x5_1 p308 q308
    cases e308
    replace p308:=eq_true p308
    replace q308:=eq_true q308
    go_wp2
    repeat (go_quiet (fail);try go_wp2)
    go_ret
    exact ⟨by first | rfl | (simp;done) | (simp [*];done),by repeat (first | exact Drawn0.refl _ | apply Drawn0.step)⟩
   rw [if_neg c7] at H
   have c7b0 : (!((((rd_T27 l0 x5_1).f0).toList) == (((rd_T27 l1 x5_1).f0).toList)) || (!(((rd_T27 l0 x5_1).f1) == ((rd_T27 l1 x5_1).f1)) || (!(((rd_T27 l0 x5_1).f2) == ((rd_T27 l1 x5_1).f2)) || (!(((rd_T27 l0 x5_1).f3) == ((rd_T27 l1 x5_1).f3)))))) = false:=by simpa using c7
   clear c7
   have H':=Aside0.mk H
   clear H
   have p307 : 0 ≤ (x5_1 : Int):=of_decide_eq_true T9q1
   have q307 : x5_1 < (l0.length : Int):=of_decide_eq_true T9q1
   obtain ⟨ad307,e307,hx307_0,hx307_1,hx307_2,hx307_3⟩:=at_T27 HR0.out x5_1 p307 q307
   cases e307
   replace p307:=eq_true p307
   replace q307:=eq_true q307
   have p308 : 0 ≤ (x5_1 : Int):=of_decide_eq_true T9q1
   have q308 : x5_1 < (l1.length : Int):=of_decide_eq_true T9q1
   obtain ⟨ad308,e308,hx308_0,hx308_1,hx308_2,hx308_3⟩:=at_T27 HR1.out x5_1 p308 q308
   cases e308
   replace p308:=eq_true p308
   replace q308:=eq_true q308
   go_wp2
   repeat (go_quiet (fail);try go_wp2)
   go_roundg k1
   case measure => have:=HK1.out;omega
   case rel => exact ⟨(wrap64 (x5_1 + 1)),(by first | rfl | (simp;done) | (simp [*];done)),H',⟨by have:=HK1.out;omega⟩,by repeat (first | exact Drawn0.refl _ | apply Drawn0.step)⟩
-- NOT PRINTED: function 66 (impl_Entry_66)

-- NOT PRINTED: function 52 (impl_Entry_52)

/-! ### impl_RunJoin1x: function 54 -/
def impl_RunJoin1x.f (a0_0 : ByteArray) (a0_1 : Int) (a0_2 : Bool) (a0_3 : Int) (a1_0 : ByteArray) (a1_1 : Int) (a1_2 : Bool) (a1_3 : Int) : Option (Int):=(impl_before.f a0_0 a0_1 a0_2 a0_3 a1_0 a1_1 a1_2 a1_3).bind fun t312 => (if t312 = true then (some (-1)) else ((impl_before.f a1_0 a1_1 a1_2 a1_3 a0_0 a0_1 a0_2 a0_3).bind fun t313 => (if t313 = true then (some 1) else (some 0))))
set_option maxHeartbeats 8000000 in
set_option maxRecDepth 100000 in
theorem impl_RunJoin1x.calls (a0_0 : ByteArray) (a0_1 : Int) (a0_2 : Bool) (a0_3 : Int) (a1_0 : ByteArray) (a1_1 : Int) (a1_2 : Bool) (a1_3 : Int) (r : Int) (w : World) (h : impl_RunJoin1x.f a0_0 a0_1 a0_2 a0_3 a1_0 a1_1 a1_2 a1_3 = some r) :
  Calls Try.prog 54 #[.agg #[.string a0_0,.int .i64 a0_1,.bool a0_2,.int .i64 a0_3],.agg #[.string a1_0,.int .i64 a1_1,.bool a1_2,.int .i64 a1_3]] w fun e w' => e = .returned (.int .i64 r) ∧ Below w.heap.size w w':=by
 have hu27:=Try.underlying27
 have HB:=Aside0.mk (Below.refl w.heap.size w)
 have H : ((impl_before.f a0_0 a0_1 a0_2 a0_3 a1_0 a1_1 a1_2 a1_3).bind fun t312 => (if t312 = true then (some (-1)) else ((impl_before.f a1_0 a1_1 a1_2 a1_3 a0_0 a0_1 a0_2 a0_3).bind fun t313 => (if t313 = true then (some 1) else (some 0))))) = some r:=h
 clear h
 replace H:=Option.bind_eq_some_iff.mp H
 obtain ⟨t312,A30,H⟩:=H
 replace H : (if t312 = true then (some (-1)) else ((impl_before.f a1_0 a1_1 a1_2 a1_3 a0_0 a0_1 a0_2 a0_3).bind fun t313 => (if t313 = true then (some 1) else (some 0)))) = some r:=H
 have A3:=Aside0.mk A30
 clear A30
 by_cases c4 : t312 = true
 ·subst c4
  have H1 : (some (-1)) = some r:=by rw [if_pos rfl] at H;exact H
  clear H
  have H:=H1
  clear H1
  obtain rfl:=Option.some.inj H
  go_enter Try.func54,Try.ntmps54
  go_wp2_with (first | ((with_reducible refine gate_dst (N:=2) rfl ?_);refine box_event ?hg (N:=2) ?hd (cs:=#[.string a0_0,.int .i64 a0_1,.bool a0_2,.int .i64 a0_3]) (t:=27) ?hr ?_;(case hd => rfl);(case hg => rfl);(case hr => first | (go_simp;done) | (go_simp;rfl));intro gb310 hg w5 hbox hb;have n0_:=Aside0.mk (below_step (by repeat (first | (with_reducible first | exact HB.out | apply below_alloc | apply pw_below_drewN | apply below_drew1) | exact HB.out)) hb);have n1_:=Aside0.mk (hbox);have n2_:=Aside0.mk ((by rw [hg];exact (below_size (by repeat (first | (with_reducible first | exact HB.out | apply below_alloc | apply pw_below_drewN | apply below_drew1) | exact HB.out))) : w.heap.size ≤ gb310));have n3_:=Aside0.mk ((by rw [hg];exact (below_size (by repeat (first | (with_reducible first | exact HB.out | apply below_alloc | apply pw_below_drewN | apply below_drew1) | exact HB.out))) : w.heap.size ≤ gb310));clear HB;have HB:=n0_;have BK310:=n1_;have GW310:=n2_;have GE310:=n3_;clear n0_ n1_ n2_ n3_;clear hb hbox hg) | ((with_reducible refine gate_dst (N:=3) rfl ?_);refine box_event ?hg (N:=3) ?hd (cs:=#[.string a1_0,.int .i64 a1_1,.bool a1_2,.int .i64 a1_3]) (t:=27) ?hr ?_;(case hd => rfl);(case hg => rfl);(case hr => first | (go_simp;done) | (go_simp;rfl));intro gb311 hg w6 hbox hb;have n0_:=Aside0.mk (blk_below (g:=gb310) (o:=.cells #[.string a0_0,.int .i64 a0_1,.bool a0_2,.int .i64 a0_3] 27 (0,0)) T9q5 hb);have n1_:=Aside0.mk (below_step (by repeat (first | (with_reducible first | exact HB.out | apply below_alloc | apply pw_below_drewN | apply below_drew1 | refine below_set ?_ GE310.out) | exact HB.out)) hb);have n2_:=Aside0.mk (hbox);have n3_:=Aside0.mk ((by rw [hg];exact (below_size (by repeat (first | (with_reducible first | exact HB.out | apply below_alloc | apply pw_below_drewN | apply below_drew1 | refine below_set ?_ GE310.out) | exact HB.out))) : w.heap.size ≤ gb311));have n4_:=Aside0.mk ((by rw [hg];exact (below_size (by repeat (first | (with_reducible first | exact HB.out | apply below_alloc | apply pw_below_drewN | apply below_drew1 | refine below_set ?_ GE310.out) | exact HB.out))) : w.heap.size ≤ gb311));have n5_:=Aside0.mk ((by rw [hg];exact Nat.ne_of_lt (blk_lt (g:=gb310) (o:=.cells #[.string a0_0,.int .i64 a0_1,.bool a0_2,.int .i64 a0_3] 27 (0,0)) T9q5) : gb310 ≠ gb311));have n6_:=Aside0.mk ((by rw [hg];exact Nat.ne_of_gt (blk_lt (g:=gb310) (o:=.cells #[.string a0_0,.int .i64 a0_1,.bool a0_2,.int .i64 a0_3] 27 (0,0)) T9q5) : gb311 ≠ gb310));clear BK310;clear HB;have BK310:=n0_;have HB:=n1_;have BK311:=n2_;have GW311:=n3_;have GE311:=n4_;have NB310_311:=n5_;have NB311_310:=n6_;clear n0_ n1_ n2_ n3_ n4_ n5_ n6_;clear hb hbox hg;have hnb7:=NB310_311.out;have hnc7:=NB311_310.out;have hcz8_0 : w6.cell? ⟨gb310,0,none⟩ = some (.string a0_0):=(blk_cell BK310.out 0).trans rfl;have hcz8_1 : w6.cell? ⟨gb310,1,none⟩ = some (.int .i64 a0_1):=(blk_cell BK310.out 1).trans rfl;have hcz8_2 : w6.cell? ⟨gb310,2,none⟩ = some (.bool a0_2):=(blk_cell BK310.out 2).trans rfl;have hcz8_3 : w6.cell? ⟨gb310,3,none⟩ = some (.int .i64 a0_3):=(blk_cell BK310.out 3).trans rfl;have hfz8_0:=blk_frozen BK310.out 0;have hfz8_1:=blk_frozen BK310.out 1;have hfz8_2:=blk_frozen BK310.out 2;have hfz8_3:=blk_frozen BK310.out 3;have hcz9_0 : w6.cell? ⟨gb311,0,none⟩ = some (.string a1_0):=(blk_cell BK311.out 0).trans rfl;have hcz9_1 : w6.cell? ⟨gb311,1,none⟩ = some (.int .i64 a1_1):=(blk_cell BK311.out 1).trans rfl;have hcz9_2 : w6.cell? ⟨gb311,2,none⟩ = some (.bool a1_2):=(blk_cell BK311.out 2).trans rfl;have hcz9_3 : w6.cell? ⟨gb311,3,none⟩ = some (.int .i64 a1_3):=(blk_cell BK311.out 3).trans rfl;have hfz9_0:=blk_frozen BK311.out 0;have hfz9_1:=blk_frozen BK311.out 1;have hfz9_2:=blk_frozen BK311.out 2;have hfz9_3:=blk_frozen BK311.out 3) | ((with_reducible refine gate_callee (f:=51) rfl ?_);refine goesL_ (some 8) rfl rfl Try.func51 (by kernel_rfl) rfl #[.agg #[.string a0_0,.int .i64 a0_1,.bool a0_2,.int .i64 a0_3],.agg #[.string a1_0,.int .i64 a1_1,.bool a1_2,.int .i64 a1_3]] rfl T9q3 ?_;(with_reducible refine (impl_before.calls a0_0 a0_1 a0_2 a0_3 a1_0 a1_1 a1_2 a1_3 true _ A3.out).mono ?_);rintro e w10 ⟨rfl,hb⟩;refine ⟨_,rfl,?_⟩;have n0_:=Aside0.mk (blk_below (g:=gb310) (o:=.cells #[.string a0_0,.int .i64 a0_1,.bool a0_2,.int .i64 a0_3] 27 (0,0)) T9q5 hb);have n1_:=Aside0.mk (blk_below (g:=gb311) (o:=.cells #[.string a1_0,.int .i64 a1_1,.bool a1_2,.int .i64 a1_3] 27 (0,0)) T9q6 hb);have n2_:=Aside0.mk (below_step (by repeat (first | (with_reducible first | exact HB.out | apply below_alloc | apply pw_below_drewN | apply below_drew1 | refine below_set ?_ GE310.out | refine below_set ?_ GE311.out) | exact HB.out)) hb);clear BK310;clear BK311;clear HB;have BK310:=n0_;have BK311:=n1_;have HB:=n2_;clear n0_ n1_ n2_;(try clear hb);(try clear hb2);(try clear hk);(try clear hi)))
  go_ret
  exact ⟨by first | rfl | (simp [errW_none,errW_some] <;> rfl) | (simp [*,errW_none,errW_some] <;> rfl),by repeat (first | (with_reducible first | exact HB.out | apply below_alloc | apply pw_below_drewN | apply below_drew1 | refine below_set ?_ GE310.out | refine below_set ?_ GE311.out) | exact HB.out)⟩
 replace c4:=Bool.eq_false_iff.mpr c4
 subst c4
 have H1 : ((impl_before.f a1_0 a1_1 a1_2 a1_3 a0_0 a0_1 a0_2 a0_3).bind fun t313 => (if t313 = true then (some 1) else (some 0))) = some r:=by rw [if_neg (show ¬ (false = true) by decide)] at H;exact H
 clear H
 have H:=H1
 clear H1
 replace H:=Option.bind_eq_some_iff.mp H
 obtain ⟨t313,A110,H⟩:=H
 replace H : (if t313 = true then (some 1) else (some 0)) = some r:=H
 have A11:=Aside0.mk A110
 clear A110
 by_cases c12 : t313 = true
 ·subst c12
  have H1 : (some 1) = some r:=by rw [if_pos rfl] at H;exact H
  clear H
  have H:=H1
  clear H1
  obtain rfl:=Option.some.inj H
  go_enter Try.func54,Try.ntmps54
  go_wp2_with (first | ((with_reducible refine gate_dst (N:=2) rfl ?_);refine box_event ?hg (N:=2) ?hd (cs:=#[.string a0_0,.int .i64 a0_1,.bool a0_2,.int .i64 a0_3]) (t:=27) ?hr ?_;(case hd => rfl);(case hg => rfl);(case hr => first | (go_simp;done) | (go_simp;rfl));intro gb310 hg w13 hbox hb;have n0_:=Aside0.mk (below_step (by repeat (first | (with_reducible first | exact HB.out | apply below_alloc | apply pw_below_drewN | apply below_drew1) | exact HB.out)) hb);have n1_:=Aside0.mk (hbox);have n2_:=Aside0.mk ((by rw [hg];exact (below_size (by repeat (first | (with_reducible first | exact HB.out | apply below_alloc | apply pw_below_drewN | apply below_drew1) | exact HB.out))) : w.heap.size ≤ gb310));have n3_:=Aside0.mk ((by rw [hg];exact (below_size (by repeat (first | (with_reducible first | exact HB.out | apply below_alloc | apply pw_below_drewN | apply below_drew1) | exact HB.out))) : w.heap.size ≤ gb310));clear HB;have HB:=n0_;have BK310:=n1_;have GW310:=n2_;have GE310:=n3_;clear n0_ n1_ n2_ n3_;clear hb hbox hg) | ((with_reducible refine gate_dst (N:=3) rfl ?_);refine box_event ?hg (N:=3) ?hd (cs:=#[.string a1_0,.int .i64 a1_1,.bool a1_2,.int .i64 a1_3]) (t:=27) ?hr ?_;(case hd => rfl);(case hg => rfl);(case hr => first | (go_simp;done) | (go_simp;rfl));intro gb311 hg w14 hbox hb;have n0_:=Aside0.mk (blk_below (g:=gb310) (o:=.cells #[.string a0_0,.int .i64 a0_1,.bool a0_2,.int .i64 a0_3] 27 (0,0)) T9q5 hb);have n1_:=Aside0.mk (below_step (by repeat (first | (with_reducible first | exact HB.out | apply below_alloc | apply pw_below_drewN | apply below_drew1 | refine below_set ?_ GE310.out) | exact HB.out)) hb);have n2_:=Aside0.mk (hbox);have n3_:=Aside0.mk ((by rw [hg];exact (below_size (by repeat (first | (with_reducible first | exact HB.out | apply below_alloc | apply pw_below_drewN | apply below_drew1 | refine below_set ?_ GE310.out) | exact HB.out))) : w.heap.size ≤ gb311));have n4_:=Aside0.mk ((by rw [hg];exact (below_size (by repeat (first | (with_reducible first | exact HB.out | apply below_alloc | apply pw_below_drewN | apply below_drew1 | refine below_set ?_ GE310.out) | exact HB.out))) : w.heap.size ≤ gb311));have n5_:=Aside0.mk ((by rw [hg];exact Nat.ne_of_lt (blk_lt (g:=gb310) (o:=.cells #[.string a0_0,.int .i64 a0_1,.bool a0_2,.int .i64 a0_3] 27 (0,0)) T9q5) : gb310 ≠ gb311));have n6_:=Aside0.mk ((by rw [hg];exact Nat.ne_of_gt (blk_lt (g:=gb310) (o:=.cells #[.string a0_0,.int .i64 a0_1,.bool a0_2,.int .i64 a0_3] 27 (0,0)) T9q5) : gb311 ≠ gb310));clear BK310;clear HB;have BK310:=n0_;have HB:=n1_;have BK311:=n2_;have GW311:=n3_;have GE311:=n4_;have NB310_311:=n5_;have NB311_310:=n6_;clear n0_ n1_ n2_ n3_ n4_ n5_ n6_;clear hb hbox hg;have hnb15:=NB310_311.out;have hnc15:=NB311_310.out;have hcz16_0 : w14.cell? ⟨gb310,0,none⟩ = some (.string a0_0):=(blk_cell BK310.out 0).trans rfl;have hcz16_1 : w14.cell? ⟨gb310,1,none⟩ = some (.int .i64 a0_1):=(blk_cell BK310.out 1).trans rfl;have hcz16_2 : w14.cell? ⟨gb310,2,none⟩ = some (.bool a0_2):=(blk_cell BK310.out 2).trans rfl;have hcz16_3 : w14.cell? ⟨gb310,3,none⟩ = some (.int .i64 a0_3):=(blk_cell BK310.out 3).trans rfl;have hfz16_0:=blk_frozen BK310.out 0;have hfz16_1:=blk_frozen BK310.out 1;have hfz16_2:=blk_frozen BK310.out 2;have hfz16_3:=blk_frozen BK310.out 3;have hcz17_0 : w14.cell? ⟨gb311,0,none⟩ = some (.string a1_0):=(blk_cell BK311.out 0).trans rfl;have hcz17_1 : w14.cell? ⟨gb311,1,none⟩ = some (.int .i64 a1_1):=(blk_cell BK311.out 1).trans rfl;have hcz17_2 : w14.cell? ⟨gb311,2,none⟩ = some (.bool a1_2):=(blk_cell BK311.out 2).trans rfl;have hcz17_3 : w14.cell? ⟨gb311,3,none⟩ = some (.int .i64 a1_3):=(blk_cell BK311.out 3).trans rfl;have hfz17_0:=blk_frozen BK311.out 0;have hfz17_1:=blk_frozen BK311.out 1;have hfz17_2:=blk_frozen BK311.out 2;have hfz17_3:=blk_frozen BK311.out 3) | ((with_reducible refine gate_callee (f:=51) rfl ?_);refine goesL_ (some 8) rfl rfl Try.func51 (by kernel_rfl) rfl #[.agg #[.string a0_0,.int .i64 a0_1,.bool a0_2,.int .i64 a0_3],.agg #[.string a1_0,.int .i64 a1_1,.bool a1_2,.int .i64 a1_3]] rfl T9q3 ?_;(with_reducible refine (impl_before.calls a0_0 a0_1 a0_2 a0_3 a1_0 a1_1 a1_2 a1_3 false _ A3.out).mono ?_);rintro e w18 ⟨rfl,hb⟩;refine ⟨_,rfl,?_⟩;have n0_:=Aside0.mk (blk_below (g:=gb310) (o:=.cells #[.string a0_0,.int .i64 a0_1,.bool a0_2,.int .i64 a0_3] 27 (0,0)) T9q5 hb);have n1_:=Aside0.mk (blk_below (g:=gb311) (o:=.cells #[.string a1_0,.int .i64 a1_1,.bool a1_2,.int .i64 a1_3] 27 (0,0)) T9q6 hb);have n2_:=Aside0.mk (below_step (by repeat (first | (with_reducible first | exact HB.out | apply below_alloc | apply pw_below_drewN | apply below_drew1 | refine below_set ?_ GE310.out | refine below_set ?_ GE311.out) | exact HB.out)) hb);clear BK310;clear BK311;clear HB;have BK310:=n0_;have BK311:=n1_;have HB:=n2_;clear n0_ n1_ n2_;(try clear hb);(try clear hb2);(try clear hk);(try clear hi);have hcz19_0 : w18.cell? ⟨gb311,0,none⟩ = some (.string a1_0):=(blk_cell BK311.out 0).trans rfl;have hcz19_1 : w18.cell? ⟨gb311,1,none⟩ = some (.int .i64 a1_1):=(blk_cell BK311.out 1).trans rfl;have hcz19_2 : w18.cell? ⟨gb311,2,none⟩ = some (.bool a1_2):=(blk_cell BK311.out 2).trans rfl;have hcz19_3 : w18.cell? ⟨gb311,3,none⟩ = some (.int .i64 a1_3):=(blk_cell BK311.out 3).trans rfl;have hfz19_0:=blk_frozen BK311.out 0;have hfz19_1:=blk_frozen BK311.out 1;have hfz19_2:=blk_frozen BK311.out 2;have hfz19_3:=blk_frozen BK311.out 3;have hcz20_0 : w18.cell? ⟨gb310,0,none⟩ = some (.string a0_0):=(blk_cell BK310.out 0).trans rfl;have hcz20_1 : w18.cell? ⟨gb310,1,none⟩ = some (.int .i64 a0_1):=(blk_cell BK310.out 1).trans rfl;have hcz20_2 : w18.cell? ⟨gb310,2,none⟩ = some (.bool a0_2):=(blk_cell BK310.out 2).trans rfl;have hcz20_3 : w18.cell? ⟨gb310,3,none⟩ = some (.int .i64 a0_3):=(blk_cell BK310.out 3).trans rfl;have hfz20_0:=blk_frozen BK310.out 0;have hfz20_1:=blk_frozen BK310.out 1;have hfz20_2:=blk_frozen BK310.out 2;have hfz20_3:=blk_frozen BK310.out 3) | ((with_reducible refine gate_callee (f:=51) rfl ?_);refine goesL_ (some 12) rfl rfl Try.func51 (by kernel_rfl) rfl #[.agg #[.string a1_0,.int .i64 a1_1,.bool a1_2,.int .i64 a1_3],.agg #[.string a0_0,.int .i64 a0_1,.bool a0_2,.int .i64 a0_3]] rfl T9q3 ?_;(with_reducible refine (impl_before.calls a1_0 a1_1 a1_2 a1_3 a0_0 a0_1 a0_2 a0_3 true _ A11.out).mono ?_);rintro e w21 ⟨rfl,hb⟩;refine ⟨_,rfl,?_⟩;have n0_:=Aside0.mk (blk_below (g:=gb310) (o:=.cells #[.string a0_0,.int .i64 a0_1,.bool a0_2,.int .i64 a0_3] 27 (0,0)) T9q5 hb);have n1_:=Aside0.mk (blk_below (g:=gb311) (o:=.cells #[.string a1_0,.int .i64 a1_1,.bool a1_2,.int .i64 a1_3] 27 (0,0)) T9q6 hb);have n2_:=Aside0.mk (below_step (by repeat (first | (with_reducible first | exact HB.out | apply below_alloc | apply pw_below_drewN | apply below_drew1 | refine below_set ?_ GE310.out | refine below_set ?_ GE311.out) | exact HB.out)) hb);clear BK310;clear BK311;clear HB;have BK310:=n0_;have BK311:=n1_;have HB:=n2_;clear n0_ n1_ n2_;(try clear hb);(try clear hb2);(try clear hk);(try clear hi)))
  go_ret
  exact ⟨by first | rfl | (simp [errW_none,errW_some] <;> rfl) | (simp [*,errW_none,errW_some] <;> rfl),by repeat (first | (with_reducible first | exact HB.out | apply below_alloc | apply pw_below_drewN | apply below_drew1 | refine below_set ?_ GE310.out | refine below_set ?_ GE311.out) | exact HB.out)⟩
 replace c12:=Bool.eq_false_iff.mpr c12
 subst c12
 have H1 : (some 0) = some r:=by rw [if_neg (show ¬ (false = true) by decide)] at H;exact H
 clear H
 have H:=H1
 clear H1
 obtain rfl:=Option.some.inj H
 go_enter Try.func54,Try.ntmps54
 go_wp2_with (first | ((with_reducible refine gate_dst (N:=2) rfl ?_);refine box_event ?hg (N:=2) ?hd (cs:=#[.string a0_0,.int .i64 a0_1,.bool a0_2,.int .i64 a0_3]) (t:=27) ?hr ?_;(case hd => rfl);(case hg => rfl);(case hr => first | (go_simp;done) | (go_simp;rfl));intro gb310 hg w22 hbox hb;have n0_:=Aside0.mk (below_step (by repeat (first | (with_reducible first | exact HB.out | apply below_alloc | apply pw_below_drewN | apply below_drew1) | exact HB.out)) hb);have n1_:=Aside0.mk (hbox);have n2_:=Aside0.mk ((by rw [hg];exact (below_size (by repeat (first | (with_reducible first | exact HB.out | apply below_alloc | apply pw_below_drewN | apply below_drew1) | exact HB.out))) : w.heap.size ≤ gb310));have n3_:=Aside0.mk ((by rw [hg];exact (below_size (by repeat (first | (with_reducible first | exact HB.out | apply below_alloc | apply pw_below_drewN | apply below_drew1) | exact HB.out))) : w.heap.size ≤ gb310));clear HB;have HB:=n0_;have BK310:=n1_;have GW310:=n2_;have GE310:=n3_;clear n0_ n1_ n2_ n3_;clear hb hbox hg) | ((with_reducible refine gate_dst (N:=3) rfl ?_);refine box_event ?hg (N:=3) ?hd (cs:=#[.string a1_0,.int .i64 a1_1,.bool a1_2,.int .i64 a1_3]) (t:=27) ?hr ?_;(case hd => rfl);(case hg => rfl);(case hr => first | (go_simp;done) | (go_simp;rfl));intro gb311 hg w23 hbox hb;have n0_:=Aside0.mk (blk_below (g:=gb310) (o:=.cells #[.string a0_0,.int .i64 a0_1,.bool a0_2,.int .i64 a0_3] 27 (0,0)) T9q5 hb);have n1_:=Aside0.mk (below_step (by repeat (first | (with_reducible first | exact HB.out | apply below_alloc | apply pw_below_drewN | apply below_drew1 | refine below_set ?_ GE310.out) | exact HB.out)) hb);have n2_:=Aside0.mk (hbox);have n3_:=Aside0.mk ((by rw [hg];exact (below_size (by repeat (first | (with_reducible first | exact HB.out | apply below_alloc | apply pw_below_drewN | apply below_drew1 | refine below_set ?_ GE310.out) | exact HB.out))) : w.heap.size ≤ gb311));have n4_:=Aside0.mk ((by rw [hg];exact (below_size (by repeat (first | (with_reducible first | exact HB.out | apply below_alloc | apply pw_below_drewN | apply below_drew1 | refine below_set ?_ GE310.out) | exact HB.out))) : w.heap.size ≤ gb311));have n5_:=Aside0.mk ((by rw [hg];exact Nat.ne_of_lt (blk_lt (g:=gb310) (o:=.cells #[.string a0_0,.int .i64 a0_1,.bool a0_2,.int .i64 a0_3] 27 (0,0)) T9q5) : gb310 ≠ gb311));have n6_:=Aside0.mk ((by rw [hg];exact Nat.ne_of_gt (blk_lt (g:=gb310) (o:=.cells #[.string a0_0,.int .i64 a0_1,.bool a0_2,.int .i64 a0_3] 27 (0,0)) T9q5) : gb311 ≠ gb310));clear BK310;clear HB;have BK310:=n0_;have HB:=n1_;have BK311:=n2_;have GW311:=n3_;have GE311:=n4_;have NB310_311:=n5_;have NB311_310:=n6_;clear n0_ n1_ n2_ n3_ n4_ n5_ n6_;clear hb hbox hg;have hnb24:=NB310_311.out;have hnc24:=NB311_310.out;have hcz25_0 : w23.cell? ⟨gb310,0,none⟩ = some (.string a0_0):=(blk_cell BK310.out 0).trans rfl;have hcz25_1 : w23.cell? ⟨gb310,1,none⟩ = some (.int .i64 a0_1):=(blk_cell BK310.out 1).trans rfl;have hcz25_2 : w23.cell? ⟨gb310,2,none⟩ = some (.bool a0_2):=(blk_cell BK310.out 2).trans rfl;have hcz25_3 : w23.cell? ⟨gb310,3,none⟩ = some (.int .i64 a0_3):=(blk_cell BK310.out 3).trans rfl;have hfz25_0:=blk_frozen BK310.out 0;have hfz25_1:=blk_frozen BK310.out 1;have hfz25_2:=blk_frozen BK310.out 2;have hfz25_3:=blk_frozen BK310.out 3;have hcz26_0 : w23.cell? ⟨gb311,0,none⟩ = some (.string a1_0):=(blk_cell BK311.out 0).trans rfl;have hcz26_1 : w23.cell? ⟨gb311,1,none⟩ = some (.int .i64 a1_1):=(blk_cell BK311.out 1).trans rfl;have hcz26_2 : w23.cell? ⟨gb311,2,none⟩ = some (.bool a1_2):=(blk_cell BK311.out 2).trans rfl;have hcz26_3 : w23.cell? ⟨gb311,3,none⟩ = some (.int .i64 a1_3):=(blk_cell BK311.out 3).trans rfl;have hfz26_0:=blk_frozen BK311.out 0;have hfz26_1:=blk_frozen BK311.out 1;have hfz26_2:=blk_frozen BK311.out 2;have hfz26_3:=blk_frozen BK311.out 3) | ((with_reducible refine gate_callee (f:=51) rfl ?_);refine goesL_ (some 8) rfl rfl Try.func51 (by kernel_rfl) rfl #[.agg #[.string a0_0,.int .i64 a0_1,.bool a0_2,.int .i64 a0_3],.agg #[.string a1_0,.int .i64 a1_1,.bool a1_2,.int .i64 a1_3]] rfl T9q3 ?_;(with_reducible refine (impl_before.calls a0_0 a0_1 a0_2 a0_3 a1_0 a1_1 a1_2 a1_3 false _ A3.out).mono ?_);rintro e w27 ⟨rfl,hb⟩;refine ⟨_,rfl,?_⟩;have n0_:=Aside0.mk (blk_below (g:=gb310) (o:=.cells #[.string a0_0,.int .i64 a0_1,.bool a0_2,.int .i64 a0_3] 27 (0,0)) T9q5 hb);have n1_:=Aside0.mk (blk_below (g:=gb311) (o:=.cells #[.string a1_0,.int .i64 a1_1,.bool a1_2,.int .i64 a1_3] 27 (0,0)) T9q6 hb);have n2_:=Aside0.mk (below_step (by repeat (first | (with_reducible first | exact HB.out | apply below_alloc | apply pw_below_drewN | apply below_drew1 | refine below_set ?_ GE310.out | refine below_set ?_ GE311.out) | exact HB.out)) hb);clear BK310;clear BK311;clear HB;have BK310:=n0_;have BK311:=n1_;have HB:=n2_;clear n0_ n1_ n2_;(try clear hb);(try clear hb2);(try clear hk);(try clear hi);have hcz28_0 : w27.cell? ⟨gb311,0,none⟩ = some (.string a1_0):=(blk_cell BK311.out 0).trans rfl;have hcz28_1 : w27.cell? ⟨gb311,1,none⟩ = some (.int .i64 a1_1):=(blk_cell BK311.out 1).trans rfl;have hcz28_2 : w27.cell? ⟨gb311,2,none⟩ = some (.bool a1_2):=(blk_cell BK311.out 2).trans rfl;have hcz28_3 : w27.cell? ⟨gb311,3,none⟩ = some (.int .i64 a1_3):=(blk_cell BK311.out 3).trans rfl;have hfz28_0:=blk_frozen BK311.out 0;have hfz28_1:=blk_frozen BK311.out 1;have hfz28_2:=blk_frozen BK311.out 2;have hfz28_3:=blk_frozen BK311.out 3;have hcz29_0 : w27.cell? ⟨gb310,0,none⟩ = some (.string a0_0):=(blk_cell BK310.out 0).trans rfl;have hcz29_1 : w27.cell? ⟨gb310,1,none⟩ = some (.int .i64 a0_1):=(blk_cell BK310.out 1).trans rfl;have hcz29_2 : w27.cell? ⟨gb310,2,none⟩ = some (.bool a0_2):=(blk_cell BK310.out 2).trans rfl;have hcz29_3 : w27.cell? ⟨gb310,3,none⟩ = some (.int .i64 a0_3):=(blk_cell BK310.out 3).trans rfl;have hfz29_0:=blk_frozen BK310.out 0;have hfz29_1:=blk_frozen BK310.out 1;have hfz29_2:=blk_frozen BK310.out 2;have hfz29_3:=blk_frozen BK310.out 3) | ((with_reducible refine gate_callee (f:=51) rfl ?_);refine goesL_ (some 12) rfl rfl Try.func51 (by kernel_rfl) rfl #[.agg #[.string a1_0,.int .i64 a1_1,.bool a1_2,.int .i64 a1_3],.agg #[.string a0_0,.int .i64 a0_1,.bool a0_2,.int .i64 a0_3]] rfl T9q3 ?_;(with_reducible refine (impl_before.calls a1_0 a1_1 a1_2 a1_3 a0_0 a0_1 a0_2 a0_3 false _ A11.out).mono ?_);rintro e w30 ⟨rfl,hb⟩;refine ⟨_,rfl,?_⟩;have n0_:=Aside0.mk (blk_below (g:=gb310) (o:=.cells #[.string a0_0,.int .i64 a0_1,.bool a0_2,.int .i64 a0_3] 27 (0,0)) T9q5 hb);have n1_:=Aside0.mk (blk_below (g:=gb311) (o:=.cells #[.string a1_0,.int .i64 a1_1,.bool a1_2,.int .i64 a1_3] 27 (0,0)) T9q6 hb);have n2_:=Aside0.mk (below_step (by repeat (first | (with_reducible first | exact HB.out | apply below_alloc | apply pw_below_drewN | apply below_drew1 | refine below_set ?_ GE310.out | refine below_set ?_ GE311.out) | exact HB.out)) hb);clear BK310;clear BK311;clear HB;have BK310:=n0_;have BK311:=n1_;have HB:=n2_;clear n0_ n1_ n2_;(try clear hb);(try clear hb2);(try clear hk);(try clear hi)))
 go_ret
 exact ⟨by first | rfl | (simp [errW_none,errW_some] <;> rfl) | (simp [*,errW_none,errW_some] <;> rfl),by repeat (first | (with_reducible first | exact HB.out | apply below_alloc | apply pw_below_drewN | apply below_drew1 | refine below_set ?_ GE310.out | refine below_set ?_ GE311.out) | exact HB.out)⟩
end Go.Proofs.Ytkifijclehgiaaa.PFnRunJoinAt
