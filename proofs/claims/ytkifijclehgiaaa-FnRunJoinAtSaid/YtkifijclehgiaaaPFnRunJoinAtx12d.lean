/-
 Functions that FnRunJoinAt reaches,each as a Lean function,and that Go comes to its answer: printed by the kit's printer,the sort's comparing function and impl.RunJoin's part laid by hand. Conditions: those that stand in each statement.
-/
import Derived.Test.YtkifijclehgiaaaPFnRunJoinAtx0
import Derived.Test.YtkifijclehgiaaaPFnRunJoinAtx9
import Derived.Test.YtkifijclehgiaaaPFnRunJoinAtx11
import Derived.Test.YtkifijclehgiaaaGv
namespace Go.Proofs.Ytkifijclehgiaaa.PFnRunJoinAt
open Go.RowKit Go.Proofs.YtkifijclehgiaaaW.PrintWords Go.Proofs.YtkifijclehgiaaaW.PrintLast Go.Proofs.YtkifijclehgiaaaW.PrintMore
attribute [local go_sem] max2_int min2_int max_two min_two max_three min_three max_four min_four   -- for this text's walks alone
set_option linter.unusedVariables false
set_option linter.unusedSimpArgs false


/-! ### impl_Entry_71: function 71 -/
mutual
def impl_Entry_71.l0 : Nat → List (S27) → Int → Int → Int → Option ((List (S27)))
 | 0,_,_,_,_ => none
 | k + 1,x0,x1,x10,x11 => if x10 < x11 then (if 0 ≤ (wrap64 ((IntKind.u64.wrap (wrap64 (x10 + x11))) / 2)) then (if (wrap64 ((IntKind.u64.wrap (wrap64 (x10 + x11))) / 2)) < (x0.length : Int) then (if 0 ≤ x1 then (if x1 < (x0.length : Int) then ((impl_RunJoin1x.f ((rd_T27 x0 (wrap64 ((IntKind.u64.wrap (wrap64 (x10 + x11))) / 2))).f0) ((rd_T27 x0 (wrap64 ((IntKind.u64.wrap (wrap64 (x10 + x11))) / 2))).f1) ((rd_T27 x0 (wrap64 ((IntKind.u64.wrap (wrap64 (x10 + x11))) / 2))).f2) ((rd_T27 x0 (wrap64 ((IntKind.u64.wrap (wrap64 (x10 + x11))) / 2))).f3) ((rd_T27 x0 x1).f0) ((rd_T27 x0 x1).f1) ((rd_T27 x0 x1).f2) ((rd_T27 x0 x1).f3)).bind fun t330 => (if t330 < 0 then (impl_Entry_71.l0 k x0 x1 (wrap64 ((wrap64 ((IntKind.u64.wrap (wrap64 (x10 + x11))) / 2)) + 1)) x11) else (impl_Entry_71.l0 k x0 x1 x10 (wrap64 ((IntKind.u64.wrap (wrap64 (x10 + x11))) / 2))))) else (none)) else (none)) else (none)) else (none)) else (impl_Entry_71.l1 k x0 x10 x1)
def impl_Entry_71.l1 : Nat → List (S27) → Int → Int → Option ((List (S27)))
 | 0,_,_,_ => none
 | k + 1,x0,x10,x13 => if x13 < (wrap64 (x10 - 1)) then (if 0 ≤ (wrap64 (x13 + 1)) then (if (wrap64 (x13 + 1)) < (x0.length : Int) then (if 0 ≤ x13 then (if x13 < (x0.length : Int) then (impl_Entry_71.l1 k ((x0.set (x13 : Int).toNat (⟨(rd_T27 x0 (wrap64 (x13 + 1))).f0,(rd_T27 x0 (wrap64 (x13 + 1))).f1,(rd_T27 x0 (wrap64 (x13 + 1))).f2,(rd_T27 x0 (wrap64 (x13 + 1))).f3⟩ : S27)).set ((wrap64 (x13 + 1)) : Int).toNat (⟨(rd_T27 x0 x13).f0,(rd_T27 x0 x13).f1,(rd_T27 x0 x13).f2,(rd_T27 x0 x13).f3⟩ : S27)) x10 (wrap64 (x13 + 1))) else (none)) else (none)) else (none)) else (none)) else (some x0)
def impl_Entry_71.l2 : Nat → List (S27) → Int → Int → Int → Option ((List (S27)))
 | 0,_,_,_,_ => none
 | k + 1,x0,x2,x14,x15 => if x14 < x15 then (if 0 ≤ x2 then (if x2 < (x0.length : Int) then (if 0 ≤ (wrap64 ((IntKind.u64.wrap (wrap64 (x14 + x15))) / 2)) then (if (wrap64 ((IntKind.u64.wrap (wrap64 (x14 + x15))) / 2)) < (x0.length : Int) then ((impl_RunJoin1x.f ((rd_T27 x0 x2).f0) ((rd_T27 x0 x2).f1) ((rd_T27 x0 x2).f2) ((rd_T27 x0 x2).f3) ((rd_T27 x0 (wrap64 ((IntKind.u64.wrap (wrap64 (x14 + x15))) / 2))).f0) ((rd_T27 x0 (wrap64 ((IntKind.u64.wrap (wrap64 (x14 + x15))) / 2))).f1) ((rd_T27 x0 (wrap64 ((IntKind.u64.wrap (wrap64 (x14 + x15))) / 2))).f2) ((rd_T27 x0 (wrap64 ((IntKind.u64.wrap (wrap64 (x14 + x15))) / 2))).f3)).bind fun t337 => (if t337 < 0 then (impl_Entry_71.l2 k x0 x2 x14 (wrap64 ((IntKind.u64.wrap (wrap64 (x14 + x15))) / 2))) else (impl_Entry_71.l2 k x0 x2 (wrap64 ((wrap64 ((IntKind.u64.wrap (wrap64 (x14 + x15))) / 2)) + 1)) x15))) else (none)) else (none)) else (none)) else (none)) else (impl_Entry_71.l3 k x0 x14 x2)
def impl_Entry_71.l3 : Nat → List (S27) → Int → Int → Option ((List (S27)))
 | 0,_,_,_ => none
 | k + 1,x0,x14,x17 => if x17 > x14 then (if 0 ≤ (wrap64 (x17 - 1)) then (if (wrap64 (x17 - 1)) < (x0.length : Int) then (if 0 ≤ x17 then (if x17 < (x0.length : Int) then (impl_Entry_71.l3 k ((x0.set (x17 : Int).toNat (⟨(rd_T27 x0 (wrap64 (x17 - 1))).f0,(rd_T27 x0 (wrap64 (x17 - 1))).f1,(rd_T27 x0 (wrap64 (x17 - 1))).f2,(rd_T27 x0 (wrap64 (x17 - 1))).f3⟩ : S27)).set ((wrap64 (x17 - 1)) : Int).toNat (⟨(rd_T27 x0 x17).f0,(rd_T27 x0 x17).f1,(rd_T27 x0 x17).f2,(rd_T27 x0 x17).f3⟩ : S27)) x14 (wrap64 (x17 - 1))) else (none)) else (none)) else (none)) else (none)) else (some x0)
def impl_Entry_71.j4 : Nat → List (S27) → Int → Int → Int → Int → Int → Int → Int → Int → Option ((List (S27)))
 | 0,_,_,_,_,_,_,_,_,_ => none
 | k + 1,x0,x1,x2,x3,x4,x18,x19,x20,x21 => impl_Entry_71.l4 k x0 x1 x2 x3 x4 x18 x19 x20 x21 (wrap64 (x19 - 1))
def impl_Entry_71.l4 : Nat → List (S27) → Int → Int → Int → Int → Int → Int → Int → Int → Int → Option ((List (S27)))
 | 0,_,_,_,_,_,_,_,_,_,_ => none
 | k + 1,x0,x1,x2,x3,x4,x18,x19,x20,x21,x22 => if x20 < x21 then (if 0 ≤ (wrap64 (x22 - (wrap64 ((IntKind.u64.wrap (wrap64 (x20 + x21))) / 2)))) then (if (wrap64 (x22 - (wrap64 ((IntKind.u64.wrap (wrap64 (x20 + x21))) / 2)))) < (x0.length : Int) then (if 0 ≤ (wrap64 ((IntKind.u64.wrap (wrap64 (x20 + x21))) / 2)) then (if (wrap64 ((IntKind.u64.wrap (wrap64 (x20 + x21))) / 2)) < (x0.length : Int) then ((impl_RunJoin1x.f ((rd_T27 x0 (wrap64 (x22 - (wrap64 ((IntKind.u64.wrap (wrap64 (x20 + x21))) / 2))))).f0) ((rd_T27 x0 (wrap64 (x22 - (wrap64 ((IntKind.u64.wrap (wrap64 (x20 + x21))) / 2))))).f1) ((rd_T27 x0 (wrap64 (x22 - (wrap64 ((IntKind.u64.wrap (wrap64 (x20 + x21))) / 2))))).f2) ((rd_T27 x0 (wrap64 (x22 - (wrap64 ((IntKind.u64.wrap (wrap64 (x20 + x21))) / 2))))).f3) ((rd_T27 x0 (wrap64 ((IntKind.u64.wrap (wrap64 (x20 + x21))) / 2))).f0) ((rd_T27 x0 (wrap64 ((IntKind.u64.wrap (wrap64 (x20 + x21))) / 2))).f1) ((rd_T27 x0 (wrap64 ((IntKind.u64.wrap (wrap64 (x20 + x21))) / 2))).f2) ((rd_T27 x0 (wrap64 ((IntKind.u64.wrap (wrap64 (x20 + x21))) / 2))).f3)).bind fun t344 => (if t344 < 0 then (impl_Entry_71.l4 k x0 x1 x2 x3 x4 x18 x19 x20 (wrap64 ((IntKind.u64.wrap (wrap64 (x20 + x21))) / 2)) x22) else (impl_Entry_71.l4 k x0 x1 x2 x3 x4 x18 x19 (wrap64 ((wrap64 ((IntKind.u64.wrap (wrap64 (x20 + x21))) / 2)) + 1)) x21 x22))) else (none)) else (none)) else (none)) else (none)) else (if x20 < x2 then (impl_Entry_71.j6 k x0 x1 x2 x3 x4 x18 x20 (wrap64 (x19 - x20)) (decide (x2 < (wrap64 (x19 - x20))))) else (impl_Entry_71.j6 k x0 x1 x2 x3 x4 x18 x20 (wrap64 (x19 - x20)) false))
def impl_Entry_71.j6 : Nat → List (S27) → Int → Int → Int → Int → Int → Int → Int → Bool → Option ((List (S27)))
 | 0,_,_,_,_,_,_,_,_,_ => none
 | k + 1,x0,x1,x2,x3,x4,x18,x20,x24,x185 => if x185 = true then ((impl_Entry_72.f k x0 x20 x2 x24 x4).bind fun t345 => (impl_Entry_71.j7 k t345 x1 x3 x4 x18 x20 x24)) else (impl_Entry_71.j7 k x0 x1 x3 x4 x18 x20 x24)
def impl_Entry_71.j7 : Nat → List (S27) → Int → Int → Int → Int → Int → Int → Option ((List (S27)))
 | 0,_,_,_,_,_,_,_ => none
 | k + 1,x0,x1,x3,x4,x18,x20,x24 => if x1 < x20 then (impl_Entry_71.j8 k x0 x1 x3 x4 x18 x20 x24 (decide (x20 < x18))) else (impl_Entry_71.j8 k x0 x1 x3 x4 x18 x20 x24 false)
def impl_Entry_71.j8 : Nat → List (S27) → Int → Int → Int → Int → Int → Int → Bool → Option ((List (S27)))
 | 0,_,_,_,_,_,_,_,_ => none
 | k + 1,x0,x1,x3,x4,x18,x20,x24,x199 => if x199 = true then ((impl_Entry_71.f k x0 x1 x20 x18 x4).bind fun t346 => (if x18 < x24 then (if x24 < x3 then ((impl_Entry_71.f k t346 x18 x24 x3 x4).bind fun t347 => (some t347)) else (some t346)) else (some t346))) else (if x18 < x24 then (if x24 < x3 then ((impl_Entry_71.f k x0 x18 x24 x3 x4).bind fun t348 => (some t348)) else (some x0)) else (some x0))
def impl_Entry_71.f : Nat → List (S27) → Int → Int → Int → Int → Option ((List (S27)))
 | 0,_,_,_,_,_ => none
 | k + 1,l0,a1,a2,a3,a4 => if (wrap64 (a2 - a1)) = 1 then (impl_Entry_71.l0 k l0 a1 a2 a3) else (if (wrap64 (a3 - a2)) = 1 then (impl_Entry_71.l2 k l0 a2 a1 a2) else (if a2 > (wrap64 ((IntKind.u64.wrap (wrap64 (a1 + a3))) / 2)) then (impl_Entry_71.j4 k l0 a1 a2 a3 a4 (wrap64 ((IntKind.u64.wrap (wrap64 (a1 + a3))) / 2)) (wrap64 ((wrap64 ((IntKind.u64.wrap (wrap64 (a1 + a3))) / 2)) + a2)) (wrap64 ((wrap64 ((wrap64 ((IntKind.u64.wrap (wrap64 (a1 + a3))) / 2)) + a2)) - a3)) (wrap64 ((IntKind.u64.wrap (wrap64 (a1 + a3))) / 2))) else (impl_Entry_71.j4 k l0 a1 a2 a3 a4 (wrap64 ((IntKind.u64.wrap (wrap64 (a1 + a3))) / 2)) (wrap64 ((wrap64 ((IntKind.u64.wrap (wrap64 (a1 + a3))) / 2)) + a2)) a1 a2)))
end
def impl_Entry_71.T5 : Bool × List (List Nat × List Nat):=(true,[([],[]),([],[]),([],[]),([1,2],[1,2]),([3],[3]),([],[]),([],[]),([5,6],[5,6]),([7],[7]),([0,4,8],[0,4,8]),([9],[9])])
def impl_Entry_71.B5 : List Nat:=[0,0,0,6,14,0,0,96,224,511,1023]
theorem impl_Entry_71.tab5 : rtab .any (opsOf Try.f71 5) = impl_Entry_71.T5:=by kernel_rfl
theorem impl_Entry_71.bits5 : waitsOk impl_Entry_71.T5.2 impl_Entry_71.B5 = true:=by kernel_rfl
def impl_Entry_71.T11 : Bool × List (List Nat × List Nat):=(true,[([],[]),([],[]),([],[]),([],[]),([3],[3]),([],[]),([],[]),([6],[6]),([5,7],[5,7]),([8],[8]),([],[]),([],[]),([10,11],[10,11]),([12],[12]),([0,1,0,1,5,6,7,8,9,13],[0,1]),([14,9,0,1,5,6,7,8,9,13],[9,14]),([2,4,0,1,2,3,4,5,6,7,8,9,10,11,12,13,14,15],[2,4]),([16,13,15,0,1,2,3,4,5,6,7,8,9,10,11,12,13,14,15],[13,16])])
def impl_Entry_71.B11 : List Nat:=[0,0,0,0,8,0,0,64,224,480,0,0,3072,7168,16355,32739,65535,131071]
theorem impl_Entry_71.tab11 : rtab .any (opsOf Try.f71 11) = impl_Entry_71.T11:=by kernel_rfl
theorem impl_Entry_71.bits11 : waitsOk impl_Entry_71.T11.2 impl_Entry_71.B11 = true:=by kernel_rfl
def impl_Entry_71.T17 : Bool × List (List Nat × List Nat):=(true,[([],[]),([],[]),([],[]),([1,2],[1,2]),([3],[3]),([],[]),([],[]),([5,6],[5,6]),([7],[7]),([0,4,8],[0,4,8]),([9],[9]),([10],[10])])
def impl_Entry_71.B17 : List Nat:=[0,0,0,6,14,0,0,96,224,511,1023,2047]
theorem impl_Entry_71.tab17 : rtab .any (opsOf Try.f71 17) = impl_Entry_71.T17:=by kernel_rfl
theorem impl_Entry_71.bits17 : waitsOk impl_Entry_71.T17.2 impl_Entry_71.B17 = true:=by kernel_rfl
def impl_Entry_71.T23 : Bool × List (List Nat × List Nat):=(true,[([],[]),([],[]),([],[]),([],[]),([3],[3]),([],[]),([],[]),([6],[6]),([5,7],[5,7]),([8],[8]),([],[]),([],[]),([10,11],[10,11]),([12],[12]),([0,1,0,1,5,6,7,8,9,13],[0,1]),([14,9,0,1,5,6,7,8,9,13],[9,14]),([2,4,0,1,2,3,4,5,6,7,8,9,10,11,12,13,14,15],[2,4]),([16,13,15,0,1,2,3,4,5,6,7,8,9,10,11,12,13,14,15],[13,16])])
def impl_Entry_71.B23 : List Nat:=[0,0,0,0,8,0,0,64,224,480,0,0,3072,7168,16355,32739,65535,131071]
theorem impl_Entry_71.tab23 : rtab .any (opsOf Try.f71 23) = impl_Entry_71.T23:=by kernel_rfl
theorem impl_Entry_71.bits23 : waitsOk impl_Entry_71.T23.2 impl_Entry_71.B23 = true:=by kernel_rfl
def impl_Entry_71.T35 : Bool × List (List Nat × List Nat):=(true,[([],[]),([],[]),([],[]),([],[]),([2,3],[2,3]),([1,4],[1,4]),([5],[5]),([],[]),([],[]),([7,8],[7,8]),([9],[9]),([0,6,10],[0,6,10]),([11],[11]),([12],[12])])
def impl_Entry_71.B35 : List Nat:=[0,0,0,0,12,30,62,0,0,384,896,2047,4095,8191]
theorem impl_Entry_71.tab35 : rtab .any (opsOf Try.f71 35) = impl_Entry_71.T35:=by kernel_rfl
theorem impl_Entry_71.bits35 : waitsOk impl_Entry_71.T35.2 impl_Entry_71.B35 = true:=by kernel_rfl
end Go.Proofs.Ytkifijclehgiaaa.PFnRunJoinAt
