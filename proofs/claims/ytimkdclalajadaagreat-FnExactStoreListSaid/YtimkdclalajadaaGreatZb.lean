/-
  What the abstract operations give, as rules to rewrite by. Lemmas. No condition.
  Rows of our own: nil as one, settled ones, ones that are lent. Definitions and lemmas. No condition.
  What is computed, in plain Lean: keys, entries, runs; loops that check, find, collect; how such data lie. Definitions and lemmas. No condition.
  A region in one go: what rewriting makes of its operations, up to the next call. Definitions and lemmas. No condition.
  Several objects: heaps told as lists; calls that hand them on; ends and loop heads that go by them. Definitions and lemmas. No condition.
  The types, as the abstract operations want them. No condition.
  Contracts: numbers, keys, entries. No condition.
  Contracts: entries and runs. No condition.
  Contracts: runs, their keys, what is found in them. No condition.
  Contracts: runs, their keys. No condition.
  strings.Builder: its contracts, over builders of our own. No condition.
  strings.Builder's String, over builders of our own. No condition.
  The sieve of keys, in plain Lean: forks, what one fork puts out, all of them one behind the other. Definitions and lemmas. No condition.
  Contracts: the sieve of keys, the program's. No condition.
  Contracts: key lists; the sieve of a key list, the program's. No condition.
  Contracts whose rows are settled: what a call gives is read, and no more changed. Definitions and lemmas. No condition.
  The reference's sieve, in plain Lean: keys of one letter lie side by side. Definitions and lemmas. No condition.
-/
import Derived.Test.YtimkdclalajadaaGreatZa
import Derived.Laws.Strings
import Derived.Sort.Walk0
import Derived.Test.YtimkdclalajadaaGreatProg
import Derived.KernelRfl
import Derived.Shelf.Strings.Builder1
import Derived.Lib.Builder
import Derived.Shelf.RegionOpenPlain
import Derived.Lib.Strings
import Derived.Lib.Slices
import Derived.Lib.Walk
import Derived.Lib.AppendStr
import Derived.Lib.UnsafeStr
import Derived.WalkKit
import Derived.Laws.Externs
import Derived.Laws.IdiomCopy
import Derived.Laws.BitsLemmas
import Derived.Lib.MakeNoZero
namespace Go.Proofs.YtimkdclalajadaaGreat.Ab
open Nat renaming reduceEqDiff → jE, reduceAdd → jA, reduceMul → jM, reduceSub → jS, reduceLT → jL, reduceLeDiff → jD, reduceBEq → jB
set_option linter.deprecated false
set_option linter.unusedVariables false
set_option linter.unusedSimpArgs false
open Go
section
variable {P : Program} {nm : Nat} {ev : Operand → AV} {hp : Hp}
@[go_sem] theorem r_look0 (t : Nat) : look [] t = .dead := rfl
@[go_sem] theorem r_look (i : Nat) (v : AV) (r : List (Nat × AV)) (t : Nat) : look ((i, v) :: r) t = if t = i then v else look r t := rfl
@[go_sem] theorem r_tmp (sl : Nat → AV) (t : Nat) : evO sl (.tmp t) = sl t := rfl
@[go_sem] theorem r_fun (sl : Nat → AV) (f : Nat) : evO sl (.func f) = .t (.c (.fn f [])) := rfl
@[go_sem] theorem r_ci (sl : Nat → AV) (k : IntKind) (n : Int) : evO sl (.const (.int k n)) = .t (.c (.d (.s (.int k n)))) := rfl
@[go_sem] theorem r_cb (sl : Nat → AV) (b : Bool) : evO sl (.const (.bool b)) = .t (.c (.d (.s (.bool b)))) := rfl
@[go_sem] theorem r_cs (sl : Nat → AV) (s : ByteArray) : evO sl (.const (.string s)) = .t (.c (.d (.s (.string s)))) := rfl
@[go_sem] theorem r_cn (sl : Nat → AV) : evO sl (.const (.slice none 0 0)) = .t (.c (.d (.s (.slice none 0 0)))) := rfl
@[go_sem] theorem r_cp (sl : Nat → AV) : evO sl (.const (.pointer none)) = .t (.c (.d (.s (.pointer none)))) := rfl
@[go_sem] theorem r_cI (sl : Nat → AV) : evO sl (.const .nilIface) = .t (.c (.d (.s .nilIface))) := rfl
@[go_sem] theorem r_asV (v : Value) : asV (.t (.c (.d (.s v)))) = some v := rfl
@[go_sem] theorem r_asI (k : IntKind) (n : Int) : asI (.t (.c (.d (.s (.int k n))))) = some n := rfl
@[go_sem] theorem r_asCV (x : CV) : asCV (.t (.c x)) = some x := rfl
@[go_sem] theorem r_asTV (x : TV) : asTV (.t x) = some x := rfl
@[go_sem] theorem r_asPd (x : D) : asP (.t (.c (.d x))) = some (.d x) := rfl
@[go_sem] theorem r_asPp (m i j : Nat) : asP (.t (.c (.ph m i j))) = some (.ph m i j) := rfl
@[go_sem] theorem r_val (v : Value) : val v = .t (.c (.d (.s v))) := rfl
@[go_sem] theorem r_cv (v : Value) : cvOf v = .d (.s v) := rfl
@[go_sem] theorem r_upd (f : Hp) (i : Nat) (x : Option Obj) (m : Nat) : upd f i x m = if m = i then x else f m := rfl
@[go_sem] theorem r_cellsC (x : CV) : TV.cells (.c x) = [x] := rfl
@[go_sem] theorem r_cellsA (cs : List CV) : TV.cells (.agg cs) = cs := rfl
@[go_sem] theorem r_ofF (x : CV) : ofCells false [x] = some (.c x) := rfl
@[go_sem] theorem r_ofT (cs : List CV) : ofCells true cs = some (.agg cs) := rfl
@[go_sem] theorem r_aggI (k : IntKind) (a b : Nat) (z : List Value) : TI.agg ⟨.int k, a, b, z⟩ = false := rfl
@[go_sem] theorem r_aggB (a b : Nat) (z : List Value) : TI.agg ⟨.bool, a, b, z⟩ = false := rfl
@[go_sem] theorem r_aggS (a b : Nat) (z : List Value) : TI.agg ⟨.str, a, b, z⟩ = false := rfl
@[go_sem] theorem r_aggL (e a b : Nat) (z : List Value) : TI.agg ⟨.sl e, a, b, z⟩ = false := rfl
@[go_sem] theorem r_aggP (a b : Nat) (z : List Value) : TI.agg ⟨.pt, a, b, z⟩ = false := rfl
@[go_sem] theorem r_aggF (a b : Nat) (z : List Value) : TI.agg ⟨.fn, a, b, z⟩ = false := rfl
@[go_sem] theorem r_aggT (fs : List (Nat × Nat × Bool)) (a b : Nat) (z : List Value) : TI.agg ⟨.st fs, a, b, z⟩ = true := rfl
@[go_sem] theorem r_b0 (d : Nat) : bnd d none = some (d : Int) := rfl
@[go_sem] theorem r_b1 (d : Nat) (a : AV) : bnd d (some a) = asI a := rfl
@[go_sem] theorem r_obs {α β : Type} (x : α) (f : α → Option β) : (some x).bind f = f x := rfl
@[go_sem] theorem r_oms {α β : Type} (x : α) (f : α → β) : (some x).map f = some (f x) := rfl
@[go_sem] theorem r_omn {α β : Type} (f : α → β) : (none : Option α).map f = none := rfl
@[go_sem] theorem r_mp0 {α β : Type} (f : α → β) : List.map f [] = [] := rfl
@[go_sem] theorem r_mp1 {α β : Type} (f : α → β) (x : α) (l : List α) : List.map f (x :: l) = f x :: List.map f l := rfl
@[go_sem] theorem r_tl {α : Type} (l : List α) : (l.toArray).toList = l := rfl
-- operations
@[go_sem] theorem r_move (x : Operand) : opv P nm ev hp (.move x) = some (ev x, hp) := rfl
@[go_sem] theorem r_assign (x : Operand) : opv P nm ev hp (.assign x) = some (ev x, hp) := rfl
@[go_sem] theorem r_pick (c a b : Operand) : opv P nm ev hp (.pick c a b) = match asV (ev c) with
    | some (.bool t) => some (if t then ev a else ev b, hp)
    | _ => none := rfl
@[go_sem] theorem r_pb (t x y : Bool) : (if t = true then AV.t (.c (.d (.s (.bool x)))) else AV.t (.c (.d (.s (.bool y))))) = AV.t (.c (.d (.s (.bool (if t = true then x else y))))) := by cases t <;> rfl
@[go_sem] theorem r_extract (x : Operand) (i : Nat) : opv P nm ev hp (.extract x i) = match ev x with
    | .tup xs => (xs[i]?).map fun v => (.t v, hp)
    | _ => none := rfl
@[go_sem] theorem r_unOp (op : UnOp) (t : TypeId) (x : Operand) : opv P nm ev hp (.unOp op t x) = (asV (ev x)).bind fun v => (uop op v).map fun r => (val r, hp) := rfl
@[go_sem] theorem r_binOp (op : BinOp) (t t' : TypeId) (x y : Operand) : opv P nm ev hp (.binOp op t x y t') = (bopA P t op (ev x) (ev y)).map fun r => (val r, hp) := rfl
@[go_sem] theorem r_bopS (t : Nat) (op : BinOp) (a b : Value) : bopA P t op (.t (.c (.d (.s a)))) (.t (.c (.d (.s b)))) = bop (tiOf P t) op a b := rfl
@[go_sem] theorem r_bopA (t : Nat) (op : BinOp) (cs ds : List CV) : bopA P t op (.t (.agg cs)) (.t (.agg ds)) = aggEq P t op cs ds := rfl
@[go_sem] theorem r_aggEq {t : Nat} {fs : List (Nat × Ty)} {cs ds : List CV} (h : aggFs P t = some fs) : aggEq P t .eql cs ds = (fEq cs ds fs).map .bool := by unfold aggEq; rw [h, Option.bind_some]; cases fEq cs ds fs <;> rfl
@[go_sem] theorem r_aggNe {t : Nat} {fs : List (Nat × Ty)} {cs ds : List CV} (h : aggFs P t = some fs) : aggEq P t .neq cs ds = (fEq cs ds fs).map fun b => .bool !b := by unfold aggEq; rw [h, Option.bind_some]; cases fEq cs ds fs <;> rfl
@[go_sem] theorem r_fEq0 (cs ds : List CV) : fEq cs ds [] = some true := rfl
@[go_sem] theorem r_fEq1 (cs ds : List CV) (n : Nat) (ty : Ty) (fs : List (Nat × Ty)) : fEq cs ds ((n, ty) :: fs) = (cs[n]?).bind fun x => (ds[n]?).bind fun y => (sEq ty x y).bind fun b => (fEq cs ds fs).map fun r => b && r := rfl
@[go_sem] theorem r_sEqI (k : IntKind) (a b : Int) : sEq (.int k) (.d (.s (.int k a))) (.d (.s (.int k b))) = some (decide (a = b)) := by show (if k = k ∧ k = k then some (a == b) else none) = _; rw [if_pos ⟨rfl, rfl⟩]; rfl
@[go_sem] theorem r_sEqS (a b : ByteArray) : sEq .str (.d (.s (.string a))) (.d (.s (.string b))) = some (a.toList == b.toList) := rfl
@[go_sem] theorem r_sEqB (a b : Bool) : sEq .bool (.d (.s (.bool a))) (.d (.s (.bool b))) = some (a == b) := rfl
@[go_sem] theorem r_not (b : Bool) : uop .not (.bool b) = some (.bool !b) := rfl
@[go_sem] theorem r_neg (k : IntKind) (n : Int) : uop .neg (.int k n) = some (.int k (k.wrap (0 - n))) := rfl
section
variable {T : Option TI} {k : IntKind} {a b : Int} {s u : ByteArray} {x y : Bool}
@[go_sem] theorem r_add : bop T .add (.int k a) (.int k b) = some (.int k (k.wrap (a + b))) := by simp [bop, iop]
@[go_sem] theorem r_sub : bop T .sub (.int k a) (.int k b) = some (.int k (k.wrap (a - b))) := by simp [bop, iop]
@[go_sem] theorem r_mul : bop T .mul (.int k a) (.int k b) = some (.int k (k.wrap (a * b))) := by simp [bop, iop]
@[go_sem] theorem r_quo : bop T .quo (.int k a) (.int k b) = if b = 0 then none else some (.int k (k.wrap (a.tdiv b))) := by simp [bop, iop]
@[go_sem] theorem r_rem : bop T .rem (.int k a) (.int k b) = if b = 0 then none else some (.int k (a.tmod b)) := by simp [bop, iop]
@[go_sem] theorem r_xor : bop T .xor (.int k a) (.int k b) = some (.int k (k.wrap (BitVec.ofInt k.bits a ^^^ BitVec.ofInt k.bits b).toNat)) := by simp [bop, iop]
@[go_sem] theorem r_eql : bop T .eql (.int k a) (.int k b) = some (.bool (decide (a = b))) := by simp [bop, iop]; rfl
@[go_sem] theorem r_neq : bop T .neq (.int k a) (.int k b) = some (.bool (!decide (a = b))) := by simp [bop, iop, bne]; rfl
@[go_sem] theorem r_lss : bop T .lss (.int k a) (.int k b) = some (.bool (decide (a < b))) := by simp [bop, iop]
@[go_sem] theorem r_leq : bop T .leq (.int k a) (.int k b) = some (.bool (decide (a ≤ b))) := by simp [bop, iop]
@[go_sem] theorem r_gtr : bop T .gtr (.int k a) (.int k b) = some (.bool (decide (b < a))) := by simp [bop, iop]
@[go_sem] theorem r_geq : bop T .geq (.int k a) (.int k b) = some (.bool (decide (b ≤ a))) := by simp [bop, iop]
@[go_sem] theorem r_sadd : bop T .add (.string s) (.string u) = if s.size + u.size ≤ 9223372036854775807 then some (.string (s ++ u)) else none := rfl
@[go_sem] theorem r_seql : bop T .eql (.string s) (.string u) = some (.bool (s.toList == u.toList)) := rfl
@[go_sem] theorem r_sneq : bop T .neq (.string s) (.string u) = some (.bool !(s.toList == u.toList)) := rfl
@[go_sem] theorem r_slss : bop T .lss (.string s) (.string u) = some (.bool (Op.bytesLess s.toList u.toList)) := rfl
@[go_sem] theorem r_sleq : bop T .leq (.string s) (.string u) = some (.bool (Op.bytesLess s.toList u.toList || s.toList == u.toList)) := rfl
@[go_sem] theorem r_sgtr : bop T .gtr (.string s) (.string u) = some (.bool !(Op.bytesLess s.toList u.toList || s.toList == u.toList)) := rfl
@[go_sem] theorem r_sgeq : bop T .geq (.string s) (.string u) = some (.bool !(Op.bytesLess s.toList u.toList)) := rfl
@[go_sem] theorem r_beql (n m : Nat) (z : List Value) : bop (some ⟨.bool, n, m, z⟩) .eql (.bool x) (.bool y) = some (.bool (x == y)) := rfl
@[go_sem] theorem r_bneq (n m : Nat) (z : List Value) : bop (some ⟨.bool, n, m, z⟩) .neq (.bool x) (.bool y) = some (.bool !(x == y)) := rfl
end
@[go_sem] theorem r_convert (src dst : TypeId) (x : Operand) : opv P nm ev hp (.convert src dst x) = match tiOf P src, tiOf P dst, asCV (ev x) with
    | some ⟨.int _, _, _, _⟩, some ⟨.int k, _, _, _⟩, some (.d (.s (.int _ n))) => some (val (.int k (k.wrap n)), hp)
    | some ⟨.str, _, _, _⟩, some ⟨.str, _, _, _⟩, some (.d (.s (.string s))) => some (val (.string s), hp)
    | some ⟨.sl e, _, _, _⟩, some ⟨.str, _, _, _⟩, some y => match tiOf P e with
      | some ⟨.int .u8, 1, _, _⟩ => ((elsOf hp y).bind byE).map fun s => (val (.string s), hp)
      | _ => none
    | _, _, _ => none := rfl
@[go_sem] theorem r_byE1 (n : Int) : byE [[.d (.s (.int .u8 n))]] = some (ByteArray.empty.push (UInt8.ofNat n.toNat)) := rfl
def ixB (hp : Hp) (s : ByteArray) (i : Nat) : Option (AV × Hp) := if h : i < s.size then some (.t (.c (.d (.s (.int .u8 (s[i].toNat : Int))))), hp) else none
theorem ixB_ok {s : ByteArray} {i : Nat} (h : i < s.size) : ixB hp s i = some (.t (.c (.d (.s (.int .u8 (s[i].toNat : Int))))), hp) := dif_pos h
def ixI (hp : Hp) (s : ByteArray) (n : Int) : Option (AV × Hp) := if 0 ≤ n then ixB hp s n.toNat else none
@[go_sem] theorem r_ixI (s : ByteArray) (i : Nat) : ixI hp s (i : Int) = ixB hp s i := by simp [ixI]
@[go_sem] theorem r_index (t : TypeId) (x i : Operand) : opv P nm ev hp (.index t x i) = match tiOf P t, asV (ev x), asI (ev i) with
    | some ⟨.str, _, _, _⟩, some (.string s), some n => ixI hp s n
    | _, _, _ => none := by
  show (match tiOf P t, asV (ev x), asI (ev i) with
    | some ⟨.str, _, _, _⟩, some (.string s), some n => if h : 0 ≤ n ∧ n < s.size then some (val (.int .u8 (s[n.toNat]'(by omega)).toNat), hp) else none
    | _, _, _ => none) = _
  split
  · rename_i s n _ _ _
    unfold ixI ixB
    by_cases h0 : 0 ≤ n
    · by_cases h1 : n < s.size
      · rw [dif_pos ⟨h0, h1⟩, if_pos h0, dif_pos (by omega)]; rfl
      · rw [dif_neg (fun h => h1 h.2), if_pos h0, dif_neg (by omega)]
    · rw [dif_neg (fun h => h0 h.1), if_neg h0]
  · rfl
/-- An element's place, in a row that is read; in one of our own. -/
def ixR (P : Program) (hp : Hp) (e k : Nat) (els : List (List D)) (n : Int) : Option (AV × Hp) := match tiOf P e with
  | some E => if 0 ≤ n ∧ E.sz = k ∧ 0 < k then (els[n.toNat]?).map fun cs => (.t (.c (.pr cs)), hp) else none
  | none => none
def ixH (P : Program) (hp : Hp) (e m : Nat) (n : Int) : Option (AV × Hp) := match tiOf P e, hp m with
  | some E, some o => if 0 ≤ n ∧ n < o.els.length ∧ E.sz = o.k ∧ o.row then some (.t (.c (.ph m n.toNat 0)), hp) else none
  | _, _ => none
@[go_sem] theorem r_indexAddr (t : TypeId) (x i : Operand) : opv P nm ev hp (.indexAddr t x i) = match tiOf P t, asCV (ev x), asI (ev i) with
    | some ⟨.sl e, _, _, _⟩, some (.d (.rs k els)), some n => ixR P hp e k els n
    | some ⟨.sl e, _, _, _⟩, some (.h m), some n => ixH P hp e m n
    | _, _, _ => none := by
  simp only [opv]
  cases tiOf P t with
  | none => rfl
  | some T =>
    obtain ⟨ty, sz, bys, z⟩ := T
    cases asCV (ev x) with
    | none => cases ty <;> rfl
    | some a =>
      cases asI (ev i) with
      | none =>
        cases a with
        | d y => cases ty <;> cases y <;> rfl
        | _ => cases ty <;> rfl
      | some n =>
        cases a with
        | d y =>
          cases y with
          | s u => cases ty <;> rfl
          | rs k els =>
            cases ty <;> try rfl
            rename_i e
            simp only [ixR]
            cases tiOf P e with
            | none => rfl
            | some E => cases els[n.toNat]? with
              | none => simp only []; split <;> rfl
              | some cs => rfl
        | h m =>
          cases ty <;> try rfl
        | _ => cases ty <;> rfl
@[go_sem] theorem r_ixR (e k : Nat) (els : List (List D)) (i : Nat) : ixR P hp e k els (i : Int) = match tiOf P e with
    | some E => if E.sz = k ∧ 0 < k then (els[i]?).map fun cs => (.t (.c (.pr cs)), hp) else none
    | none => none := by
  unfold ixR; split <;> simp
@[go_sem] theorem r_ixR0 (e k : Nat) (els : List (List D)) : ixR P hp e k els 0 = match tiOf P e with
    | some E => if E.sz = k ∧ 0 < k then (els[0]?).map fun cs => (.t (.c (.pr cs)), hp) else none
    | none => none := r_ixR (hp := hp) e k els 0
@[go_sem] theorem r_ixI0 (s : ByteArray) : ixI hp s 0 = ixB hp s 0 := r_ixI s 0
@[go_sem] theorem r_ixH (e m i : Nat) : ixH P hp e m (i : Int) = match tiOf P e, hp m with
    | some E, some o => if i < o.els.length ∧ E.sz = o.k ∧ o.row then some (.t (.c (.ph m i 0)), hp) else none
    | _, _ => none := by
  unfold ixH; split <;> simp
@[go_sem] theorem r_ixH0 (e m : Nat) : ixH P hp e m 0 = match tiOf P e, hp m with
    | some E, some o => if 0 < o.els.length ∧ E.sz = o.k ∧ o.row then some (.t (.c (.ph m 0 0)), hp) else none
    | _, _ => none := r_ixH (hp := hp) e m 0
@[go_sem] theorem r_fieldAddr (t : TypeId) (x : Operand) (f : Nat) : opv P nm ev hp (.fieldAddr t x f) = match tiOf P t, asCV (ev x) with
    | some ⟨.st fs, _, _, _⟩, some (.ph m i j) => match fs[f]? with
      | some (off, size, _) => if 0 < size then some (.t (.c (.ph m i (j + off))), hp) else none
      | none => none
    | some ⟨.st fs, _, _, _⟩, some (.pr cs) => match fs[f]? with
      | some (off, size, _) => if 0 < size then some (.t (.c (.pr (cs.drop off))), hp) else none
      | none => none
    | _, _ => none := rfl
@[go_sem] theorem r_field (t : TypeId) (x : Operand) (f : Nat) : opv P nm ev hp (.field t x f) = match tiOf P t, ev x with
    | some ⟨.st fs, _, _, _⟩, .t (.agg cs) => match fs[f]? with
      | some (off, size, ag) => if ((cs.drop off).take size).length = size then (ofCells ag ((cs.drop off).take size)).map fun v => (.t v, hp) else none
      | none => none
    | _, _ => none := rfl
@[go_sem] theorem r_load (t : TypeId) (x : Operand) : opv P nm ev hp (.load t x) = match tiOf P t, asCV (ev x) with
    | some T, some a => (ldv T hp a).map fun v => (.t v, hp)
    | _, _ => none := rfl
@[go_sem] theorem r_ldh (T : TI) (m i j : Nat) : ldv T hp (.ph m i j) = match hp m with
    | some o => match o.els[i]? with
      | some cs => if ((cs.drop j).take T.sz).length = T.sz then ofCells T.agg ((cs.drop j).take T.sz) else none
      | none => none
    | none => none := rfl
@[go_sem] theorem r_ldp (T : TI) (cs : List D) : ldv T hp (.pr cs) = if (cs.take T.sz).length = T.sz then ofCells T.agg ((cs.take T.sz).map .d) else none := rfl
@[go_sem] theorem r_store (t : TypeId) (x y : Operand) : opv P nm ev hp (.store t x y) = match tiOf P t, asCV (ev x), asTV (ev y) with
    | some T, some a, some v => (stv T hp a v).map fun h => (.dead, h)
    | _, _, _ => none := rfl
@[go_sem] theorem r_stv (T : TI) (m i j : Nat) (v : TV) : stv T hp (.ph m i j) v = match hp m with
    | some o => match o.els[i]? with
      | some cs => if v.cells.length = T.sz ∧ j + T.sz ≤ o.k then some (upd hp m (some { o with els := o.els.set i (splice cs j v.cells) })) else none
      | none => none
    | none => none := rfl
@[go_sem] theorem r_splice (cs : List CV) (j : Nat) (ws : List CV) : splice cs j ws = cs.take j ++ ws ++ cs.drop (j + ws.length) := rfl
@[go_sem] theorem r_alloc (t : TypeId) : opv P nm ev hp (.alloc t) = match tiOf P t with
    | some T => if T.z.all scal ∧ 0 < T.z.length ∧ T.z.length = T.sz then some (.t (.c (.ph nm 0 0)), upd hp nm (some (newVarO t (T.z.map cvOf)))) else none
    | none => none := rfl
@[go_sem] theorem r_newVar (e : Nat) (cs : List CV) : newVarO e cs = { e := e, k := cs.length, row := false, els := [cs] } := rfl
@[go_sem] theorem r_box (t : TypeId) (x : Operand) : opv P nm ev hp (.box t x) = match tiOf P t, asTV (ev x) with
    | some T, some v => if v.cells.length = T.sz ∧ 0 < T.sz then some (.t (.c (.ph nm 0 0)), upd hp nm (some (newVarO t v.cells))) else none
    | _, _ => none := rfl
@[go_sem] theorem r_build (t : TypeId) (ps : List (Nat × Operand)) : opv P nm ev hp (.build t ps.toArray) = match tiOf P t with
    | some ⟨.st fs, _, _, z⟩ => if z.all scal then ((ps.mapM fun p => (asTV (ev p.2)).map fun v => (p.1, v)).bind fun vs => fillC fs (z.map cvOf) vs).map fun cs => (.t (.agg cs), hp) else none
    | _ => none := rfl
@[go_sem] theorem r_fill0 (fs : List (Nat × Nat × Bool)) (cs : List CV) : fillC fs cs [] = some cs := rfl
@[go_sem] theorem r_fill1 (fs : List (Nat × Nat × Bool)) (cs : List CV) (i : Nat) (v : TV) (r : List (Nat × TV)) : fillC fs cs ((i, v) :: r) = match fs[i]? with
    | some (off, size, _) => if v.cells.length = size ∧ off + size ≤ cs.length then fillC fs (splice cs off v.cells) r else none
    | none => none := rfl
@[go_sem] theorem r_mm0 {α β : Type} (f : α → Option β) : ([] : List α).mapM f = some [] := rfl
@[go_sem] theorem r_mm1 {α β : Type} (f : α → Option β) (x : α) (l : List α) : (x :: l).mapM f = (f x).bind fun y => (l.mapM f).map fun r => y :: r := by
  rw [List.mapM_cons]
  cases f x with
  | none => rfl
  | some y => cases h : List.mapM f l <;> simp [h]
@[go_sem] theorem r_buildSlice (t len : Nat) (ps : List (Nat × Operand)) : opv P nm ev hp (.buildSlice t len ps.toArray) = match tiOf P t with
    | some ⟨.sl e, _, _, _⟩ => match tiOf P e with
      | some E => if ps.length = len ∧ 0 < E.sz ∧ len * E.sz ≤ 16777216 then ((ps.mapM fun p => (asTV (ev p.2)).map fun v => (p.1, v)).bind fun vs => litE E.sz 0 vs).map fun els => (.t (.c (.h nm)), upd hp nm (some { e := e, k := E.sz, row := true, els := els })) else none
      | none => none
    | _ => none := rfl
@[go_sem] theorem r_lit0 (sz i : Nat) : litE sz i [] = some [] := rfl
@[go_sem] theorem r_lit1 (sz i j : Nat) (v : TV) (r : List (Nat × TV)) : litE sz i ((j, v) :: r) = if j = i ∧ v.cells.length = sz then (litE sz (i + 1) r).map (v.cells :: ·) else none := rfl
@[go_sem] theorem r_makeSlice (t : TypeId) (l c : Operand) : opv P nm ev hp (.makeSlice t l c) = match tiOf P t, asI (ev l), asI (ev c) with
    | some ⟨.sl e, _, _, _⟩, some n, some n' => match tiOf P e with
      | some E => if 0 ≤ n ∧ n = n' ∧ 0 < E.sz ∧ E.z.all scal ∧ E.z.length = E.sz ∧ n.toNat * E.bys ≤ 140737488355328 ∧ n ≤ 140737488355328 then some (.t (.c (.h nm)), upd hp nm (some { e := e, k := E.sz, row := true, els := List.replicate n.toNat (E.z.map cvOf) })) else none
      | none => none
    | _, _, _ => none := rfl
@[go_sem] theorem r_slice (t : TypeId) (x : Operand) (lo hi : Option Operand) : opv P nm ev hp (.slice t x lo hi none) = match tiOf P t, asCV (ev x) with
    | some ⟨.str, _, _, _⟩, some (.d (.s (.string s))) => match bnd 0 (lo.map ev), bnd s.size (hi.map ev) with
      | some l, some h => if 0 ≤ l ∧ l ≤ h ∧ h ≤ s.size then some (val (.string (s.extract l.toNat h.toNat)), hp) else none
      | _, _ => none
    | some ⟨.sl e, _, _, _⟩, some (.d (.rs k els)) => match tiOf P e, bnd 0 (lo.map ev), bnd els.length (hi.map ev) with
      | some E, some l, some h => if 0 ≤ l ∧ l ≤ h ∧ h ≤ els.length ∧ E.sz = k then some (.t (.c (.d (.rs k ((els.take h.toNat).drop l.toNat)))), hp) else none
      | _, _, _ => none
    | some ⟨.sl e, _, _, _⟩, some (.h m) => match tiOf P e, hp m, lo, bnd 0 (hi.map ev) with
      | some _, some o, none, some h => if 0 ≤ h ∧ h ≤ o.els.length ∧ o.row ∧ hi.isSome then some (.t (.c (.h nm)), upd (upd hp m none) nm (some { o with els := o.els.take h.toNat })) else none
      | _, _, _, _ => none
    | some ⟨.sl e, _, _, _⟩, some (.d (.s (.slice none 0 0))) => match tiOf P e, bnd 0 (lo.map ev), bnd 0 (hi.map ev) with
      | some _, some l, some h => if l = 0 ∧ h = 0 then some (val (.slice none 0 0), hp) else none
      | _, _, _ => none
    | _, _ => none := rfl
@[go_sem] theorem r_makeFunc (f : FuncId) (cap : List Operand) : opv P nm ev hp (.makeFunc (.func f) #[] cap.toArray) = (cap.mapM fun x => asP (ev x)).map fun ps => (.t (.c (.fn f ps)), hp) := rfl
@[go_sem] theorem r_nilCheck (x : Operand) : opv P nm ev hp (.nilCheck x) = match asCV (ev x) with
    | some (.ph m i j) => some (.t (.c (.ph m i j)), hp)
    | some (.pr cs) => some (.t (.c (.pr cs)), hp)
    | some (.fn f cap) => some (.t (.c (.fn f cap)), hp)
    | _ => none := rfl
@[go_sem] theorem r_len (x : Operand) (t : TypeId) : opv P nm ev hp (.call { callee := .builtin .len, args := #[x], argTypes := #[t] }) = match tiOf P t, asCV (ev x) with
      | some ⟨.str, _, _, _⟩, some (.d (.s (.string s))) => some (val (.int .i64 s.size), hp)
      | some ⟨.sl _, _, _, _⟩, some y => (lenOf hp y).map fun (n : Nat) => (val (.int .i64 (n : Int)), hp)
      | _, _ => none := rfl
@[go_sem] theorem r_lenD (k : Nat) (els : List (List D)) : lenOf hp (.d (.rs k els)) = some els.length := rfl
@[go_sem] theorem r_lenN : lenOf hp (.d (.s (.slice none 0 0))) = some 0 := rfl
@[go_sem] theorem r_lenH (m : Nat) : lenOf hp (.h m) = match hp m with
    | some o => if o.row then some o.els.length else none
    | none => none := rfl
@[go_sem] theorem r_elsD (k : Nat) (els : List (List D)) : elsOf hp (.d (.rs k els)) = some (els.map (·.map .d)) := rfl
@[go_sem] theorem r_elsN : elsOf hp (.d (.s (.slice none 0 0))) = some [] := rfl
@[go_sem] theorem r_elsH (m : Nat) : elsOf hp (.h m) = match hp m with
    | some o => if o.row then some o.els else none
    | none => none := rfl
@[go_sem] theorem r_append (x y : Operand) (t : TypeId) : opv P nm ev hp (.call { callee := .builtin .append, args := #[x, y], argTypes := #[t, t] }) = match tiOf P t, asCV (ev x), asCV (ev y) with
      | some ⟨.sl e, _, _, _⟩, some v, some z => (tiOf P e).bind fun E => if 0 < E.sz ∧ E.z.length = E.sz then app E e nm hp v z else none
      | _, _, _ => none := by
  show (if t = t then _ else none) = _
  rw [if_pos rfl]
  rfl
@[go_sem] theorem r_app (E : TI) (e m : Nat) (x : CV) : app E e nm hp (.h m) x = match elsOf hp x with
    | some ys => if ys.all (fun cs => cs.length == E.sz) then (match hp m with
      | some o => if o.row ∧ o.e = e ∧ o.k = E.sz ∧ notH m x = true ∧ (o.els.length + ys.length) * E.bys ≤ 140737488355328 ∧ 0 < E.bys then
          some (.t (.c (.h nm)), upd (upd hp m none) nm (some { o with els := o.els ++ ys })) else none
      | none => none) else none
    | none => none := rfl
@[go_sem] theorem r_app0 (E : TI) (e : Nat) (x : CV) : app E e nm hp (.d (.s (.slice none 0 0))) x = match elsOf hp x with
    | some ys => if ys.all (fun cs => cs.length == E.sz) then (if ys.length * E.bys ≤ 140737488355328 ∧ 0 < E.bys then some (.t (.c (.h nm)), upd hp nm (some { e := e, k := E.sz, row := true, els := ys })) else none) else none
    | none => none := rfl
@[go_sem] theorem r_notH (m n : Nat) : notH m (.h n) = !(n == m) := rfl
@[go_sem] theorem r_notHd (m : Nat) (x : D) : notH m (.d x) = true := rfl
@[go_sem] theorem r_min (x y : Operand) (t : Array TypeId) : opv P nm ev hp (.call { callee := .builtin .min, args := #[x, y], argTypes := t }) = match asV (ev x), asV (ev y) with
      | some (.int k a), some (.int k' b) => some (val (.int k (if b < a then b else a)), hp)
      | _, _ => none := by
  obtain ⟨t⟩ := t
  rcases t with _ | ⟨_, _ | ⟨_, _ | ⟨_, _⟩⟩⟩ <;> rfl
@[go_sem] theorem r_max (x y : Operand) (t : Array TypeId) : opv P nm ev hp (.call { callee := .builtin .max, args := #[x, y], argTypes := t }) = match asV (ev x), asV (ev y) with
      | some (.int k a), some (.int k' b) => some (val (.int k (if a < b then b else a)), hp)
      | _, _ => none := by
  obtain ⟨t⟩ := t
  rcases t with _ | ⟨_, _ | ⟨_, _ | ⟨_, _⟩⟩⟩ <;> rfl
-- names
@[go_sem] theorem r_avN (f : CV → List Nat) (x : CV) : avN f (.t (.c x)) = f x := rfl
@[go_sem] theorem r_cvh (m : Nat) : cvN (.h m) = [m] := rfl
@[go_sem] theorem r_cvp (m i j : Nat) : cvN (.ph m i j) = [m] := rfl
@[go_sem] theorem r_cvd (x : D) : cvN (.d x) = [] := rfl
@[go_sem] theorem r_cvr (x : List D) : cvN (.pr x) = [] := rfl
@[go_sem] theorem r_hh (m : Nat) : hN (.h m) = [m] := rfl
@[go_sem] theorem r_hp (m i j : Nat) : hN (.ph m i j) = [] := rfl
@[go_sem] theorem r_hd (x : D) : hN (.d x) = [] := rfl
@[go_sem] theorem r_hr (x : List D) : hN (.pr x) = [] := rfl
-- results
@[go_sem] theorem r_resA (rs : List ResultVar) (sl : Nat → AV) : resA P rs sl hp = (rs.mapM (resV P sl hp)).map tupA := rfl
@[go_sem] theorem r_resT (sl : Nat → AV) (t : Nat) : resV P sl hp (.tmp t) = asTV (sl t) := rfl
@[go_sem] theorem r_resC (sl : Nat → AV) (a t : Nat) : resV P sl hp (.cell a t) = match tiOf P t, asCV (sl a) with
    | some T, some (.ph m i j) => ldv T hp (.ph m i j)
    | _, _ => none := rfl
@[go_sem] theorem r_tup1 (x : TV) : tupA [x] = .t x := rfl
@[go_sem] theorem r_tup2 (x y : TV) (r : List TV) : tupA (x :: y :: r) = .tup (x :: y :: r) := rfl
@[go_sem] theorem r_tup0 : tupA [] = .tup [] := rfl
end

/-- A row of plain data. -/
def dRow (e k : Nat) (ds : List (List D)) : Obj := ⟨e, k, true, ds.map (·.map .d)⟩
section
variable {P : Program} {N k : Nat} {x : Code} {Q : Exit → St → Prop} {l : List (Nat × AV)} {hp : Hp} {n : Nat}
theorem mapM_map {α β γ : Type} {f : α → β} {g : β → Option γ} {h : α → γ} (e : ∀ a, g (f a) = some (h a)) : ∀ (l : List α), (l.map f).mapM g = some (l.map h)
  | [] => rfl
  | a :: r => by
    rw [List.map_cons, r_mm1, e a, mapM_map e r]; rfl
theorem lend_dRow {e k m : Nat} {ds : List (List D)} (h : hp m = some (dRow e k ds)) (j : Nat) : lendC hp (j + 1) (.h m) = some (.rs k ds) := by
  simp only [lendC, h, dRow, if_true]
  rw [mapM_map (h := id) (fun cs => by
    rw [mapM_map (h := id) (fun d => by cases j <;> rfl)]; simp)]
  simp
theorem lendN_dRow {e k m : Nat} {ds : List (List D)} (h : hp m = some (dRow e k ds)) (j : Nat) : ∀ q ∈ lendN hp (j + 1) (.h m), q = m := by
  intro q hq
  simp only [lendN, h, dRow, List.mem_cons, List.mem_flatMap] at hq
  rcases hq with rfl | ⟨cs, hcs, y, hy, hq⟩
  · rfl
  · obtain ⟨ds', _, rfl⟩ := List.mem_map.1 hcs
    obtain ⟨d, _, rfl⟩ := List.mem_map.1 hy
    cases j <;> simp [lendN] at hq
/-- A row of plain data is lent. -/
theorem arg_lend {N' L : List Nat} {e k m : Nat} {ds : List (List D)} (h : hp m = some (dRow e k ds)) (hm : m ∈ L) : Arg hp N' L (.c (.h m)) (.c (.d (.rs k ds))) := by
  refine .ln (n := 1) ?_ ?_
  · simp only [TV.lend, lend_dRow h, Option.map_some]
  · intro z hz q hq
    simp only [TV.cells, List.mem_singleton] at hz
    subst hz
    rw [lendN_dRow h 0 q hq]; exact hm
/-- nil is a row of our own, too. -/
theorem Aw.own {t e j : Nat} (ht : look l t = .t (.c (.d (.s (.slice none 0 0))))) (hj : 0 < j) {n1 : Nat} (hn : n + 1 = n1) (q : Aw P N k x Q (S ((t, .t (.c (.h n))) :: l) (upd hp n (some ⟨e, j, true, []⟩)) n1)) : Aw P N k x Q (S l hp n) := fun c a r => by
  subst hn
  have hU : ¬ c.U n := fun h => by have := r.nm n h; simp only [] at this; omega
  have hrep : ORep (c.name n 0 (.slice none 0 0) j) n ⟨e, j, true, []⟩ := by
    refine ⟨by simp [Cx.name], hj, [], ⟨by simp, by simp, fun i j cs x hi => by simp at hi⟩, .inl ⟨rfl, ?_, fun b hb => ?_⟩⟩
    · simp only [Cx.name, upd_same, List.length_nil]
      exact ⟨by simp, .inl ⟨rfl, rfl⟩⟩
    · simp [Cx.name, Value.ownBlock] at hb
  have hb : ∀ y, blk (c.name n 0 (.slice none 0 0) j) n ⟨e, j, true, []⟩ ≠ some y := fun y => by simp [blk, Cx.name, Value.ownBlock]
  have g := r.good.add hU hrep (fun y hy => absurd hy (hb y))
  have t1 := (Tr.refl c hp).add r.good (fun m o h => r.good.dom m o h) hU (b := 0) (k := j) (v := .slice none 0 0) (o := ⟨e, j, true, []⟩) (fun _ h => h) (fun y hy => absurd hy (hb y))
  have le := Cx.le_name hU 0 (.slice none 0 0) j
  refine wp_mono (q (c.name n 0 (.slice none 0 0) j) a ⟨fun t' => ?_, g, fun m hm => ?_, r.sz, r.df⟩) fun e a w q => AQ.trans (c1 := c.name n 0 (.slice none 0 0) j) t1.tk q
  · show RepA _ (look ((t, .t (.c (.h n))) :: l) t') _
    simp only [look]
    split
    · rename_i h; subst h
      have := r.sl t'
      simp only [] at this
      rw [ht] at this
      have hv := repD_s this
      refine ⟨.inr rfl, ?_, ?_⟩
      · rw [hv]; simp [Cx.name]
      · rw [hv]; rfl
    · exact RepA.mono le (r.sl t')
  · rcases hm with hm | rfl
    · have := r.nm m hm; simp only [] at this ⊢; omega
    · simp

/-- A cell, settled. -/
def SetC (hp : Hp) (L : List Nat) (x y : CV) : Prop := x = y ∨ ∃ n d, lendC hp n x = some d ∧ y = .d d ∧ ∀ m ∈ lendN hp n x, m ∈ L
def SetT (hp : Hp) (L : List Nat) : TV → TV → Prop
  | .c x, .c y => SetC hp L x y
  | .agg xs, .agg ys => All2 (SetC hp L) xs ys
  | _, _ => False
def SetA (hp : Hp) (L : List Nat) : AV → AV → Prop
  | .t x, .t y => SetT hp L x y
  | .tup xs, .tup ys => All2 (SetT hp L) xs ys
  | _, .dead => True
  | _, _ => False
structure SetO (hp : Hp) (L : List Nat) (o o' : Obj) : Prop where
  e : o'.e = o.e
  k : o'.k = o.k
  row : o'.row = o.row
  els : All2 (All2 (SetC hp L)) o.els o'.els
def Cx.stl (c : Cx) (hp : Hp) (L : List Nat) : Cx := { c with S := fun b => c.S b ∨ Lent c hp L b }
theorem stl_le {c : Cx} {L : List Nat} : Le c (c.stl hp L) := ⟨fun b h => ⟨.inl h, rfl⟩, fun m h => ⟨h, rfl, rfl, rfl⟩⟩
theorem SetC.rep {c : Cx} {L : List Nat} (g : Good c hp) {y z : CV} (h : SetC hp L y z) {v : Value} (hr : RepC c y v) : RepC (c.stl hp L) z v := by
  rcases h with rfl | ⟨n, d, h1, rfl, h2⟩
  · exact RepC.mono stl_le hr
  · exact lend_rep g n y d v h1 h2 hr
theorem all2_rep {α : Type} {R : α → α → Prop} {T T' : α → Value → Prop} (hR : ∀ a b v, R a b → T a v → T' b v) {xs ys : List α} {vs : List Value} (h : All2 R xs ys) (hv : All2 T xs vs) : All2 T' ys vs := by
  refine All2.of_get (h.len.symm.trans hv.len) fun i b v hb hv' => ?_
  obtain ⟨a, ha, hab⟩ := h.get' hb
  obtain ⟨v2, h2, h3⟩ := hv.get ha
  rw [hv'] at h2
  obtain rfl := Option.some.inj h2
  exact hR a b v hab h3
theorem SetT.rep {c : Cx} {L : List Nat} (g : Good c hp) {y z : TV} (h : SetT hp L y z) {v : Value} (hr : RepT c y v) : RepT (c.stl hp L) z v := by
  cases y with
  | c y => cases z with
    | c z => exact SetC.rep g h hr
    | agg _ => exact h.elim
  | agg ys => cases z with
    | c _ => exact h.elim
    | agg zs =>
      obtain ⟨vs, e, hv⟩ := hr
      exact ⟨vs, e, all2_rep (R := SetC hp L) (T' := RepC (c.stl hp L)) (fun _ _ _ h1 h2 => SetC.rep g h1 h2) h hv⟩
theorem SetA.rep {c : Cx} {L : List Nat} (g : Good c hp) {y z : AV} (h : SetA hp L y z) {v : Value} (hr : RepA c y v) : RepA (c.stl hp L) z v := by
  cases z with
  | dead => trivial
  | t z => cases y with
    | t y => exact SetT.rep g h hr
    | _ => exact h.elim
  | tup zs => cases y with
    | tup ys =>
      obtain ⟨vs, e, hv⟩ := hr
      exact ⟨vs, e, all2_rep (R := SetT hp L) (T' := RepT (c.stl hp L)) (fun _ _ _ h1 h2 => SetT.rep g h1 h2) h hv⟩
    | _ => exact h.elim
theorem SetO.rep {c : Cx} {L : List Nat} (g : Good c hp) {m : Nat} {o o' : Obj} (h : SetO hp L o o') (hr : ORep c m o) : ORep (c.stl hp L) m o' := by
  obtain ⟨h1, h2, xs, ⟨e1, e2, e3⟩, h4⟩ := hr
  obtain ⟨a1, a2, a3, a4⟩ := h
  refine ⟨by rw [a2]; exact h1, by rw [a2]; exact h2, xs, ⟨by rw [a2, ← a4.len]; exact e1, fun cs hcs => ?_, fun i j cs y hi hy => ?_⟩, ?_⟩
  · obtain ⟨i, hi⟩ := List.mem_iff_getElem?.1 hcs
    obtain ⟨ds, hd, hdc⟩ := a4.get' hi
    rw [← hdc.len, a2]; exact e2 ds (List.mem_of_getElem? hd)
  · obtain ⟨ds, hd, hdc⟩ := a4.get' hi
    obtain ⟨z, hz, hzy⟩ := hdc.get' hy
    obtain ⟨u, hu, hru⟩ := e3 i j ds z hd hz
    rw [a2]
    exact ⟨u, hu, SetC.rep g hzy hru⟩
  · rw [a1, a2, a3, ← a4.len]; exact h4
/-- A state with some rows settled. -/
structure Stl (L : List Nat) (s s' : St) : Prop where
  sl : ∀ t, s'.sl t = .dead ∨ SetA s.hp L (s.sl t) (s'.sl t)
  hp : ∀ m o', s'.hp m = some o' → m ∉ L ∧ ∃ o, s.hp m = some o ∧ (o' = o ∨ SetO s.hp L o o')
  n : s.n ≤ s'.n
theorem SetO.refl {L : List Nat} (o : Obj) : SetO hp L o o := ⟨rfl, rfl, rfl, All2.of_get rfl fun i x y hx hy => by
  rw [hx] at hy; obtain rfl := Option.some.inj hy
  exact All2.of_get rfl fun i x y hx hy => by rw [hx] at hy; exact .inl (Option.some.inj hy)⟩
theorem Aw.settle {L : List Nat} {s s' : St} (h : Stl L s s') (q : Aw P N k x Q s') : Aw P N k x Q s := fun c a r => by
  have hobj : ∀ m o', s'.hp m = some o' → m ∉ L ∧ ∃ o, s.hp m = some o ∧ SetO s.hp L o o' := fun m o' hm => by
    obtain ⟨h1, o, h2, h3⟩ := h.hp m o' hm
    refine ⟨h1, o, h2, ?_⟩
    rcases h3 with rfl | h3
    · exact SetO.refl _
    · exact h3
  have hblk : ∀ m o o', SetO s.hp L o o' → blk (c.stl s.hp L) m o' = blk c m o := fun m o o' ho => by
    unfold blk; rw [ho.row]; rfl
  have hown : ∀ b, Owned (c.stl s.hp L) s'.hp b → ∃ m o, m ∉ L ∧ s.hp m = some o ∧ blk c m o = some b := fun b hb => by
    obtain ⟨m, o', h1, h2⟩ := hb
    obtain ⟨h3, o, h4, h5⟩ := hobj m o' h1
    rw [hblk m o o' h5] at h2
    exact ⟨m, o, h3, h4, h2⟩
  have g : Good (c.stl s.hp L) s'.hp := by
    refine ⟨fun m o' hm => ?_, fun m o' hm => ?_, fun b hb hs => ?_, fun m o1 m' o2 b h1 h2 h3 h4 => ?_, fun b hs => ?_⟩
    · obtain ⟨_, o, h2, _⟩ := hobj m o' hm; exact r.good.dom m o h2
    · obtain ⟨_, o, h2, h3⟩ := hobj m o' hm; exact SetO.rep r.good h3 (r.good.obj m o h2)
    · obtain ⟨m, o, h1, h2, h3⟩ := hown b hb
      rcases hs with hs | ⟨m', hm', o', h4, h5⟩
      · exact r.good.own b ⟨m, o, h2, h3⟩ hs
      · have := r.good.inj m o m' o' b h2 h4 h3 h5; exact h1 (this ▸ hm')
    · obtain ⟨_, p1, q1, q2⟩ := hobj m o1 h1
      obtain ⟨_, p2, q3, q4⟩ := hobj m' o2 h2
      rw [hblk m p1 o1 q2] at h3
      rw [hblk m' p2 o2 q4] at h4
      exact r.good.inj m p1 m' p2 b q1 q3 h3 h4
    · rcases hs with hs | ⟨m', _, o', h4, h5⟩
      · exact r.good.lt b hs
      · exact r.good.owned_lt ⟨m', o', h4, h5⟩
  have t : Tk k c s.hp (c.stl s.hp L) s'.hp := ⟨rfl, rfl, rfl, Nat.le_refl _, fun _ _ _ => rfl, fun m _ hm => ⟨hm, rfl, rfl, rfl⟩, fun _ h => .inl h, fun b hs => by
    rcases hs with hs | ⟨m', _, o', h4, h5⟩
    · exact .inl hs
    · exact .inr (.inl ⟨m', o', h4, h5⟩), fun b hb => by
    obtain ⟨m, o, _, h2, h3⟩ := hown b hb
    exact .inl ⟨m, o, h2, h3⟩⟩
  refine wp_mono (q (c.stl s.hp L) a ⟨fun t => ?_, g, fun m hm => Nat.lt_of_lt_of_le (r.nm m hm) h.n, r.sz, r.df⟩) fun e a w q => AQ.trans (c1 := c.stl s.hp L) t q
  rcases h.sl t with e | e
  · rw [e]; trivial
  · exact SetA.rep r.good e (r.sl t)
def ChkS (L : List Nat) (hp : Hp) (l : List (Nat × AV)) : List (Nat × AV) → Prop
  | [] => True
  | (t, v) :: r => SetA hp L (look l t) v ∧ ChkS L hp l r
theorem stl_look {L : List Nat} {hp' : Hp} {l' : List (Nat × AV)} {n' : Nat} (h : ChkS L hp l l') (hh : ∀ m o', hp' m = some o' → m ∉ L ∧ ∃ o, hp m = some o ∧ (o' = o ∨ SetO hp L o o')) (hn : n ≤ n') : Stl L (S l hp n) (S l' hp' n') := by
  refine ⟨fun t => ?_, hh, hn⟩
  show look l' t = .dead ∨ SetA hp L (look l t) (look l' t)
  induction l' with
  | nil => exact .inl rfl
  | cons p r ih =>
    obtain ⟨i, v⟩ := p
    obtain ⟨h1, h2⟩ := h
    simp only [look]
    split
    · rename_i e; subst e; exact .inr h1
    · exact ih h2
theorem SetT.refl {L : List Nat} : (y : TV) → SetT hp L y y
  | .c _ => .inl rfl
  | .agg _ => All2.of_get rfl fun i x y hx hy => by rw [hx] at hy; exact .inl (Option.some.inj hy)
theorem SetA.same {L : List Nat} {y z : AV} (h : y = z) : SetA hp L y z := by
  subst h
  cases y with
  | t y => exact SetT.refl y
  | tup ys => exact All2.of_get rfl fun i x y hx hy => by rw [hx] at hy; obtain rfl := Option.some.inj hy; exact SetT.refl x
  | dead => trivial
theorem SetC.row {L : List Nat} {e k m : Nat} {ds : List (List D)} (h : hp m = some (dRow e k ds)) (hm : m ∈ L) : SetC hp L (.h m) (.d (.rs k ds)) :=
  .inr ⟨1, _, lend_dRow h 0, rfl, fun q hq => by rw [lendN_dRow h 0 q hq]; exact hm⟩
theorem SetA.row {L : List Nat} {e k m : Nat} {ds : List (List D)} {y : AV} (hy : y = .t (.c (.h m))) (h : hp m = some (dRow e k ds)) (hm : m ∈ L) : SetA hp L y (.t (.c (.d (.rs k ds)))) := by
  subst hy; exact SetC.row h hm
end

abbrev iT (n : Int) : TV := .c (.d (.s (.int .i64 n)))
abbrev bT (b : Bool) : TV := .c (.d (.s (.bool b)))
abbrev sT (b : ByteArray) : TV := .c (.d (.s (.string b)))
theorem str_inj {a b : ByteArray} (h : a.toList = b.toList) : a = b := by
  rw [Go.ByteArray.toList_eq, Go.ByteArray.toList_eq] at h
  cases a; cases b
  simp only [ByteArray.mk.injEq]
  exact Array.toList_inj.1 h
@[go_sem] theorem r_keq (a b : ByteArray) : (a.toList == b.toList) = decide (a = b) := by
  by_cases h : a = b
  · subst h; simp
  · rw [decide_eq_false h, beq_eq_false_iff_ne]
    exact fun e => h (str_inj e)
/-- One text ahead of another. -/
def klt (a b : ByteArray) : Bool := Op.bytesLess a.toList b.toList
@[go_sem] theorem r_klt (a b : ByteArray) : Op.bytesLess a.toList b.toList = klt a b := rfl
theorem klt_iff (a b : ByteArray) : klt a b = true ↔ a.toList < b.toList := by
  unfold klt; rw [Proofs.bytesLess_eq]; simp
theorem klt_irrefl (a : ByteArray) : klt a a = false := by
  cases h : klt a a with
  | false => rfl
  | true => exact absurd ((klt_iff a a).1 h) (List.lt_irrefl _)
theorem klt_trans {a b c : ByteArray} (h : klt a b = true) (k : klt b c = true) : klt a c = true :=
  (klt_iff a c).2 (List.lt_trans ((klt_iff a b).1 h) ((klt_iff b c).1 k))
theorem klt_total {a b : ByteArray} (h : klt a b = false) (hn : a ≠ b) : klt b a = true := by
  rw [klt_iff]
  have h1 : ¬ a.toList < b.toList := fun x => by rw [← klt_iff] at x; rw [x] at h; cases h
  rcases Std.lt_trichotomy a.toList b.toList with x | x | x
  · exact absurd x h1
  · exact absurd (str_inj x) hn
  · exact x

-- numbers
theorem wrap_nat {m : Nat} (h : m ≤ 1099511627776) : IntKind.i64.wrap (m : Int) = m := by
  simp only [IntKind.wrap, IntKind.bits, IntKind.signed]
  have : (m : Int) % 2 ^ 64 = (m : Int) := by omega
  simp [this]; omega
theorem wrap_succ {i m : Nat} (h : i < m) (hm : m ≤ 1099511627776) : IntKind.i64.wrap ((i : Int) + 1) = ((i + 1 : Nat) : Int) := by
  rw [show (i : Int) + 1 = ((i + 1 : Nat) : Int) by omega]; exact wrap_nat (by omega)
theorem wrap_pred {i m : Nat} (h : i < m) (hm : m ≤ 1099511627776) : IntKind.i64.wrap (((i + 1 : Nat) : Int) - 1) = (i : Int) := by
  rw [show ((i + 1 : Nat) : Int) - 1 = ((i : Nat) : Int) by omega]; exact wrap_nat (by omega)
theorem wrap_add {a b : Nat} (h : a + b ≤ 1099511627776) : IntKind.i64.wrap ((a : Int) + (b : Int)) = ((a + b : Nat) : Int) := by
  rw [show (a : Int) + (b : Int) = ((a + b : Nat) : Int) by omega]; exact wrap_nat h
def allI (n : Nat) (p : Nat → Bool) : Bool := (List.range n).all p
theorem allI_t {n : Nat} {p : Nat → Bool} (h : ∀ j, j < n → p j = true) : allI n p = true := List.all_eq_true.2 fun j hj => h j (List.mem_range.1 hj)
theorem allI_f {n i : Nat} {p : Nat → Bool} (hi : i < n) (h : p i = false) : allI n p = false := List.all_eq_false.2 ⟨i, List.mem_range.2 hi, by rw [h]; simp⟩
theorem allI_iff {n : Nat} {p : Nat → Bool} : allI n p = true ↔ ∀ j, j < n → p j = true := ⟨fun h j hj => List.all_eq_true.1 h j (List.mem_range.2 hj), allI_t⟩
theorem upto_succ {p : Nat → Bool} {i : Nat} (h : ∀ j, j < i → p j = true) (hi : p i = true) : ∀ j, j < i + 1 → p j = true := fun j hj => by
  rcases Nat.lt_succ_iff_lt_or_eq.1 hj with h1 | rfl
  · exact h j h1
  · exact hi
theorem find_hit {α : Type} {p : α → Bool} : ∀ {xs : List α} {i : Nat} {x : α}, xs[i]? = some x → (∀ j, j < i → ∀ y, xs[j]? = some y → p y = false) → p x = true → xs.find? p = some x
  | [], i, x, h, _, _ => by simp at h
  | y :: r, 0, x, h, _, hp => by simp at h; subst h; simp [hp]
  | y :: r, i + 1, x, h, hn, hp => by
    rw [List.find?_cons, hn 0 (by omega) y rfl]
    exact find_hit (by simpa using h) (fun j hj z hz => hn (j + 1) (by omega) z (by simpa using hz)) hp
theorem find_none {α : Type} {p : α → Bool} {xs : List α} (h : ∀ j, j < xs.length → ∀ y, xs[j]? = some y → p y = false) : xs.find? p = none := by
  rw [List.find?_eq_none]
  intro x hx
  obtain ⟨i, hi⟩ := List.mem_iff_getElem?.1 hx
  rw [h i (List.getElem?_eq_some_iff.1 hi).1 x hi]; simp
theorem no_succ {α : Type} {p : α → Bool} {xs : List α} {i : Nat} {x : α} (h : ∀ j, j < i → ∀ y, xs[j]? = some y → p y = false) (hx : xs[i]? = some x) (hp : p x = false) : ∀ j, j < i + 1 → ∀ y, xs[j]? = some y → p y = false := fun j hj y hy => by
  rcases Nat.lt_succ_iff_lt_or_eq.1 hj with h1 | rfl
  · exact h j h1 y hy
  · rw [hx] at hy; obtain rfl := Option.some.inj hy; exact hp
/-- What rounds 0 to n - 1 put out. -/
def colI {β : Type} (n : Nat) (f : Nat → List β) : List β := (List.range n).flatMap f
theorem colI_0 {β : Type} (f : Nat → List β) : colI 0 f = [] := rfl
theorem colI_succ {β : Type} (n : Nat) (f : Nat → List β) : colI (n + 1) f = colI n f ++ f n := by unfold colI; rw [List.range_succ, List.flatMap_append]; simp
theorem colI_len {β : Type} {n : Nat} {f : Nat → List β} (h : ∀ j, (f j).length ≤ 1) : (colI n f).length ≤ n := by
  induction n with
  | zero => simp [colI_0]
  | succ n ih => rw [colI_succ, List.length_append]; have := h n; omega

-- keys
def lettr (c : UInt8) : Bool := decide (97 ≤ c.toNat) && decide (c.toNat ≤ 100)
def keyOk (s : ByteArray) : Bool := s.data.toList.all lettr && decide (s.size ≤ 5)
theorem lettr_t {c : UInt8} (h1 : ¬ ((c.toNat : Nat) : Int) < 97) (h2 : ¬ (100 : Int) < ((c.toNat : Nat) : Int)) : lettr c = true := by
  unfold lettr; rw [decide_eq_true (by omega), decide_eq_true (by omega)]; rfl
theorem lettr_f {c : UInt8} (h : ((c.toNat : Nat) : Int) < 97 ∨ (100 : Int) < ((c.toNat : Nat) : Int)) : lettr c = false := by
  unfold lettr
  rcases h with h | h
  · rw [decide_eq_false (by omega)]; rfl
  · rw [decide_eq_false (p := c.toNat ≤ 100) (by omega), Bool.and_false]
theorem all_succ {s : ByteArray} {i : Nat} {p : UInt8 → Bool} (h : i < s.size) (hp : (s.data.toList.take i).all p = true) (hc : p s[i] = true) : (s.data.toList.take (i + 1)).all p = true := by
  have hl : i < s.data.toList.length := by simpa using h
  rw [List.take_succ_eq_append_getElem hl, List.all_append, hp]
  simpa [ByteArray.getElem_eq_getElem_data] using hc
theorem key_bad {s : ByteArray} {i : Nat} (h : i < s.size) (hb : lettr s[i] = false) : keyOk s = false := by
  unfold keyOk
  rw [Bool.and_eq_false_iff]; left
  rw [List.all_eq_false]
  exact ⟨s[i], by simp [ByteArray.getElem_eq_getElem_data], by simp [hb]⟩
theorem key_end {s : ByteArray} (hp : (s.data.toList.take s.size).all lettr = true) : keyOk s = decide ((s.size : Int) ≤ 5) := by
  rw [show s.data.toList.take s.size = s.data.toList from List.take_of_length_le (Nat.le_of_eq Array.length_toList)] at hp
  unfold keyOk; rw [hp, Bool.true_and]
  exact decide_eq_decide.2 (by omega)

-- entries
structure Ent where
  key : ByteArray
  val : Int
  gone : Bool
  time : Int
def entD (e : Ent) : List D := [.s (.string e.key), .s (.int .i64 e.val), .s (.bool e.gone), .s (.int .i64 e.time)]
@[go_sem] theorem r_entD (e : Ent) : entD e = [.s (.string e.key), .s (.int .i64 e.val), .s (.bool e.gone), .s (.int .i64 e.time)] := rfl
abbrev entT (e : Ent) : TV := .agg [.d (.s (.string e.key)), .d (.s (.int .i64 e.val)), .d (.s (.bool e.gone)), .d (.s (.int .i64 e.time))]
abbrev runT (r : List Ent) : TV := .c (.d (.rs 4 (r.map entD)))
def strD (s : ByteArray) : List D := [.s (.string s)]
@[go_sem] theorem r_strD (s : ByteArray) : strD s = [.s (.string s)] := rfl
abbrev strsT (r : List ByteArray) : TV := .c (.d (.rs 1 (r.map strD)))
def intD (n : Int) : List D := [.s (.int .i64 n)]
@[go_sem] theorem r_intD (n : Int) : intD n = [.s (.int .i64 n)] := rfl
abbrev intsT (r : List Int) : TV := .c (.d (.rs 1 (r.map intD)))
def inB (lo n hi : Int) : Bool := decide (lo ≤ n) && decide (n ≤ hi)
def entOk (e : Ent) : Bool := keyOk e.key && inB 0 e.val 99 && (!e.gone || decide (e.val = 0)) && inB 1 e.time 999
def before (a b : Ent) : Bool := klt a.key b.key || (decide (a.key = b.key) && decide (b.time < a.time))
/-- The sizes that are wanted of keys. -/
def smK (s : ByteArray) : Prop := s.size ≤ 1099511627776
structure SmR (r : List Ent) : Prop where
  len : r.length ≤ 1099511627776
  key : ∀ e ∈ r, smK e.key
def okAt (r : List Ent) (i : Nat) : Bool := match r[i]? with
  | some e => entOk e && (match i with
    | 0 => true
    | j + 1 => match r[j]? with
      | some p => before p e
      | none => true)
  | none => true
def runOk (r : List Ent) : Bool := allI r.length (okAt r) && decide (r.length ≤ 40)
theorem runOk_bad {r : List Ent} {i : Nat} (hi : i < r.length) (h : okAt r i = false) : runOk r = false := by unfold runOk; rw [allI_f hi h]; rfl
theorem runOk_end {r : List Ent} (h : ∀ j, j < r.length → okAt r j = true) : runOk r = decide ((r.length : Int) ≤ 40) := by
  unfold runOk; rw [allI_t h, Bool.true_and]; exact decide_eq_decide.2 (by omega)
def hit (k : ByteArray) (t : Int) (e : Ent) : Bool := decide (e.key = k) && decide (e.time ≤ t)
def atM (r : List Ent) (k : ByteArray) (t : Int) : Option Ent := r.find? (hit k t)
def zEnt : Ent := ⟨ByteArray.empty, 0, false, 0⟩
/-- The keys of a run, round by round. -/
def keyAt (r : List Ent) (i : Nat) : List ByteArray := match r[i]? with
  | some e => (match i with
    | 0 => [e.key]
    | j + 1 => match r[j]? with
      | some p => if p.key = e.key then [] else [e.key]
      | none => [e.key])
  | none => []
def keysM (r : List Ent) : List ByteArray := colI r.length (keyAt r)

-- rows
section
variable {P : Program} {N k : Nat} {l : List (Nat × AV)} {hp : Hp} {n : Nat}
@[go_sem] theorem r_dr (e k : Nat) (ds : List (List D)) : (dRow e k ds).row = true := rfl
@[go_sem] theorem r_de (e k : Nat) (ds : List (List D)) : (dRow e k ds).e = e := rfl
@[go_sem] theorem r_dk (e k : Nat) (ds : List (List D)) : (dRow e k ds).k = k := rfl
@[go_sem] theorem r_dl (e k : Nat) (ds : List (List D)) : (dRow e k ds).els = ds.map (·.map .d) := rfl
theorem dRow_ren (π : Nat → Nat) (e k : Nat) (ds : List (List D)) : (dRow e k ds).ren π = dRow e k ds := by
  simp only [dRow, Obj.ren, Obj.mk.injEq, true_and, List.map_map]
  exact List.map_congr_left fun cs _ => by simp only [Function.comp, List.map_map]; exact List.map_congr_left fun d _ => rfl
theorem dRow_bd (b e k : Nat) (ds : List (List D)) : (dRow e k ds).bd b = true := by
  simp only [Obj.bd, dRow, List.all_eq_true, List.mem_map]
  rintro cs ⟨ds', _, rfl⟩ y hy
  obtain ⟨d, _, rfl⟩ := List.mem_map.1 hy
  rfl
theorem dRow_flat (e k : Nat) (ds : List (List Value)) : (dRow e k (ds.map (·.map .s))).flat = true := by
  simp only [Obj.flat, dRow, List.all_eq_true, List.mem_map]
  rintro cs ⟨_, ⟨vs, _, rfl⟩, rfl⟩ y hy
  obtain ⟨d, hd, rfl⟩ := List.mem_map.1 hy
  obtain ⟨v, _, rfl⟩ := List.mem_map.1 hd
  rfl
/-- One object. -/
abbrev hp1 (o : Obj) : Hp := upd noHp 0 (some o)
theorem inj1 {M : List Nat} {p : Obj} (m m' : Nat) (o o' : Obj) (h : hp1 p m = some o) (h' : hp1 p m' = some o') (_ : pin M m = pin M m') : m = m' := by
  have key : ∀ q o, hp1 p q = some o → q = 0 := fun q o hq => by
    by_cases e : q = 0
    · exact e
    · simp only [hp1, upd_ne _ _ e] at hq; cases hq
  rw [key m o h, key m' o' h']
theorem sel1 {m e j : Nat} {ds : List (List D)} (ho : hp m = some (dRow e j ds)) : HpSel [m] hp (hp1 (dRow e j ds)) := by
  refine ⟨inj1, fun q o hq => ?_⟩
  by_cases hq0 : q = 0
  · subst hq0
    simp only [upd_same, Option.some.injEq] at hq
    subst hq
    exact ⟨by simp, by rw [dRow_ren]; exact ho, dRow_bd _ _ _ _⟩
  · simp only [hp1, upd_ne _ _ hq0] at hq; cases hq
theorem rw1 {l' : List (Nat × AV)} {m e j : Nat} {ds : List (List D)} (h : ChkM [m] l l') (ho : hp m = some (dRow e j ds)) : Rw 0 [m] (S l hp n) (S l' (hp1 (dRow e j ds)) 1) :=
  rwM h (sel1 ho) (Nat.le_refl _) fun m hm => absurd hm (by omega)
/-- A loop with one row of our own. -/
theorem Aw_loop1 {ι : Type} {x : Code} {Q : Exit → St → Prop} (I : ι → List (Nat × AV)) (O : ι → Obj) (μ : ι → Nat) (i : ι) (h : ∀ i, Aw P N 0 x (thenQ (fun s => ∃ j M, μ j < μ i ∧ Rw 0 M s (S (I j) (hp1 (O j)) 1)) Q) (S (I i) (hp1 (O i)) 1)) : Aw P N 0 (.loop x) Q (S (I i) (hp1 (O i)) 1) :=
  Aw_loop_rw (fun i => S (I i) (hp1 (O i)) 1) μ i h
/-- The end of a function that gives one row. -/
theorem ret1 {rs : List ResultVar} {e : Exit} {x y : AV} {m q j : Nat} {ds : List (List D)} (he : e = .ret ∨ e = .normal) (h : resA P rs (look l) hp = some x) (hx : x = y.ren (pin [m])) (hb : y.bd 1 = true) (ho : hp m = some (dRow q j ds)) : RetQ P rs 0 ⟨y, hp1 (dRow q j ds), 1⟩ e (S l hp n) :=
  ⟨he.symm, [m], ⟨by rw [h, hx], hb, sel1 ho, Nat.le_refl _, fun m hm => absurd hm (by omega)⟩⟩
theorem sel1g {m : Nat} {o : Obj} (ho : hp m = some (o.ren (pin [m]))) (hb : o.bd 1 = true) : HpSel [m] hp (hp1 o) := by
  refine ⟨inj1, fun q o' hq => ?_⟩
  by_cases hq0 : q = 0
  · subst hq0
    simp only [hp1, upd_same, Option.some.injEq] at hq
    subst hq
    exact ⟨by simp, ho, hb⟩
  · simp only [hp1, upd_ne _ _ hq0] at hq; cases hq
theorem rw1g {l' : List (Nat × AV)} {m : Nat} {o : Obj} (h : ChkM [m] l l') (ho : hp m = some (o.ren (pin [m]))) (hb : o.bd 1 = true) : Rw 0 [m] (S l hp n) (S l' (hp1 o) 1) :=
  rwM h (sel1g ho hb) (Nat.le_refl _) fun m hm => absurd hm (by omega)
/-- A call with plain data, of a function that gives one row. -/
theorem call_new1 {f : FuncId} {va : List AV} {ta : List TV} {e j : Nat} {ds : List (List D)} (Y : Nat → AV) (hY : ∀ π : Nat → Nat, (Y 0).ren π = Y (π 0)) (hv : va = ta.map AV.t) (hb : ta.all (TV.bd 0) = true) (hc : AC P f ta noHp 0 ⟨Y 0, hp1 (dRow e j ds), 1⟩) (hf : (Y 0).flat = true) : CallOk P f hp va n (Y n) (upd hp n (some (dRow e j ds))) (n + 1) [] [] := by
  refine ⟨ta, ta, noHp, [], [], ⟨Y 0, hp1 (dRow e j ds), 1⟩, hv, arg_self hb, hands_none, .inl rfl, hc, ?_, ?_, rfl, rfl, rfl⟩
  · rw [hY]; simp [pout]
  · funext m
    unfold hpOut
    simp only [List.length_nil, Nat.sub_zero, Nat.add_zero, List.not_mem_nil, if_false]
    by_cases h : m = n
    · subst h
      rw [upd_same, if_pos (by unfold inR; omega), Nat.sub_self]
      simp only [hp1, upd_same, Option.map_some, dRow_ren]
    · rw [upd_ne _ _ h, if_neg (by unfold inR; omega)]
end

/-- A region on its way: in line (dr false) or drawn. -/
def Ex (dr : Bool) (P : Program) (N : Nat) (ops : Array Oper) (Q : Exit → St → Prop) (l : List Oper) (s : St) (acc : List FP) : Prop :=
  if dr = true then Dx P N ops (fun s acc => pairsB ops acc.reverse = true ∧ Q .normal s) l s acc else ∀ a, Dx P N ops (fun s _ => Q .normal s) l s a
def fpC (dr : Bool) (x : FP) (acc : List FP) : List FP := if dr = true then x :: acc else acc
def endE (dr : Bool) (ops : Array Oper) (acc : List FP) (K : Prop) : Prop := if dr = true then pairsB ops acc.reverse = true ∧ K else K
def dstE (N : Nat) (d : Option Tmp) : Prop := match d with
  | some d => d < N
  | none => True
def putE (l : List (Nat × AV)) (d : Option Tmp) (v : AV) : List (Nat × AV) := match d with
  | some d => (d, v) :: l
  | none => l
def Ev (dr : Bool) (P : Program) (N : Nat) (ops : Array Oper) (Q : Exit → St → Prop) : List Oper → List (Nat × AV) → Hp → Nat → List FP → Prop
  | [], l, hp, n, acc => endE dr ops acc (Q .normal (S l hp n))
  | o :: r, l, hp, n, acc => match wantA ops (look l) o with
    | some true => match opv P n (evO (look l)) hp o.op with
      | some (v, h1) => dstE N o.dst ∧ Ev dr P N ops Q r (putE l o.dst v) h1 (n + 1) (fpC dr ⟨n, 1, rdN (evO (look l)) o.op, wrN (evO (look l)) o.op⟩ acc)
      | none => Ex dr P N ops Q (o :: r) (S l hp n) acc
    | some false => dstE N o.dst ∧ Ev dr P N ops Q r (putE l o.dst (.tup [])) hp n (fpC dr ⟨n, 0, [], []⟩ acc)
    | none => Ex dr P N ops Q (o :: r) (S l hp n) acc
section
variable {dr : Bool} {P : Program} {N k : Nat} {ops : Array Oper} {Q : Exit → St → Prop} {r : List Oper} {l : List (Nat × AV)} {hp h1 : Hp} {n : Nat} {acc : List FP}
theorem put_lookE (d : Option Nat) (v : AV) : put (look l) d v = look (putE l d v) := by
  cases d with
  | none => rfl
  | some d => exact put_look l d v
theorem dst_ok {d : Option Nat} (h : dstE N d) : d.all (fun t => decide (t < N)) = true := by
  cases d with
  | none => rfl
  | some d => simpa [dstE] using h
theorem ex_nil (h : endE dr ops acc (Q .normal (S l hp n))) : Ex dr P N ops Q [] (S l hp n) acc := by
  cases dr with
  | true => exact h
  | false => exact fun _ => h
theorem ex_op {o : Oper} {v : AV} (hw : wantA ops (look l) o = some true) (hd : dstE N o.dst) (h : opv P n (evO (look l)) hp o.op = some (v, h1))
    (q : Ex dr P N ops Q r (S (putE l o.dst v) h1 (n + 1)) (fpC dr ⟨n, 1, rdN (evO (look l)) o.op, wrN (evO (look l)) o.op⟩ acc)) : Ex dr P N ops Q (o :: r) (S l hp n) acc := by
  cases dr with
  | true => exact dx_op hw (dst_ok hd) h (by rw [put_lookE]; exact q)
  | false => exact fun a => dx_op hw (dst_ok hd) h (by rw [put_lookE]; exact q _)
theorem ex_skip {o : Oper} (hw : wantA ops (look l) o = some false) (hd : dstE N o.dst) (q : Ex dr P N ops Q r (S (putE l o.dst (.tup [])) hp n) (fpC dr ⟨n, 0, [], []⟩ acc)) : Ex dr P N ops Q (o :: r) (S l hp n) acc := by
  cases dr with
  | true => exact dx_skip hw (dst_ok hd) (by rw [put_lookE]; exact q)
  | false => exact fun a => dx_skip hw (dst_ok hd) (by rw [put_lookE]; exact q _)
theorem ev_ex : ∀ (r : List Oper) (l : List (Nat × AV)) (hp : Hp) (n : Nat) (acc : List FP), Ev dr P N ops Q r l hp n acc → Ex dr P N ops Q r (S l hp n) acc
  | [], l, hp, n, acc, h => ex_nil h
  | o :: r, l, hp, n, acc, h => by
    unfold Ev at h
    split at h
    · rename_i hw
      split at h
      · rename_i v h1 ho
        exact ex_op hw h.1 ho (ev_ex r _ _ _ _ h.2)
      · exact h
    · rename_i hw
      exact ex_skip hw h.1 (ev_ex r _ _ _ _ h.2)
    · exact h
/-- A region in line. -/
theorem qr {id : Nat} {os : List Oper} (h : Ev false P N os.toArray Q os l hp n []) : Aw P N k (.region id os.toArray false) Q (S l hp n) := by
  refine Aw_region ?_
  have := ev_ex _ _ _ _ _ h
  simpa [Ex] using this []
/-- A region that draws its order. -/
theorem qd {id : Nat} {os : List Oper} (hm : P.follows .mixedOrders = true) (hf : fwdB os.toArray = true) (h : Ev true P N os.toArray Q os l hp n []) : Aw P N k (.region id os.toArray true) Q (S l hp n) := by
  refine Aw_draw hm hf ?_
  have := ev_ex _ _ _ _ _ h
  simpa [Ex] using this
/-- A call on the way. -/
theorem ex_call {d : Option Tmp} {f : FuncId} {args : List Operand} {ts : Array TypeId} {ty : TypeId} {pos : String} {after : Array Edge} {gd : Option (Nat × Bool)} {n1 : Nat} {rd wr : List Nat} {v : AV} {va : List AV}
    (hw : wantA ops (look l) ⟨d, .call { callee := .value (.func f), args := args.toArray, argTypes := ts }, ty, pos, after, gd⟩ = some true) (hd : dstE N d) (hva : args.map (evO (look l)) = va)
    (h : CallOk P f hp va n v h1 n1 rd wr) (q : Ev dr P N ops Q r (putE l d v) h1 n1 (fpC dr ⟨n, n1 - n, rd, wr⟩ acc)) :
    Ex dr P N ops Q (⟨d, .call { callee := .value (.func f), args := args.toArray, argTypes := ts }, ty, pos, after, gd⟩ :: r) (S l hp n) acc := by
  obtain ⟨ta, tb, hb, N', L, o, e, hB, hh, hf, hc, rfl, rfl, rfl, rfl, rfl⟩ := h.out
  have q' := ev_ex _ _ _ _ _ q
  rw [Nat.add_sub_cancel_left] at q'
  cases dr with
  | true => exact dx_call hw (dst_ok hd) rfl (by simpa [hva] using e) hB hh hf hc (by rw [put_lookE]; exact q')
  | false => exact fun a => dx_call hw (dst_ok hd) rfl (by simpa [hva] using e) hB hh hf hc (by rw [put_lookE]; exact q' _)
theorem qx {d : Option Tmp} {f : FuncId} {args : List Operand} {ts : Array TypeId} {ty : TypeId} {pos : String} {after : Array Edge} {gd : Option (Nat × Bool)} {n1 : Nat} {rd wr : List Nat} {v : AV} {va : List AV}
    (h : CallOk P f hp va n v h1 n1 rd wr) (hva : args.map (evO (look l)) = va) (hw : wantA ops (look l) ⟨d, .call { callee := .value (.func f), args := args.toArray, argTypes := ts }, ty, pos, after, gd⟩ = some true) (hd : dstE N d)
    (q : Ev dr P N ops Q r (putE l d v) h1 n1 (fpC dr ⟨n, n1 - n, rd, wr⟩ acc)) :
    Ex dr P N ops Q (⟨d, .call { callee := .value (.func f), args := args.toArray, argTypes := ts }, ty, pos, after, gd⟩ :: r) (S l hp n) acc := ex_call hw hd hva h q
/-- A call with plain data, of a function that leaves no object behind. -/
theorem qp {d : Option Tmp} {f : FuncId} {args : List Operand} {ts : Array TypeId} {ty : TypeId} {pos : String} {after : Array Edge} {gd : Option (Nat × Bool)} {v : AV} {ta : List TV} (hc : AC P f ta noHp 0 ⟨v, noHp, 0⟩)
    (hva : args.map (evO (look l)) = ta.map AV.t) (hw : wantA ops (look l) ⟨d, .call { callee := .value (.func f), args := args.toArray, argTypes := ts }, ty, pos, after, gd⟩ = some true) (hd : dstE N d)
    (hb : ta.all (TV.bd 0) = true) (hx : v.bd 0 = true) (q : Ev dr P N ops Q r (putE l d v) hp n (fpC dr ⟨n, 0, [], []⟩ acc)) :
    Ex dr P N ops Q (⟨d, .call { callee := .value (.func f), args := args.toArray, argTypes := ts }, ty, pos, after, gd⟩ :: r) (S l hp n) acc :=
  ex_call hw hd hva (call_pure rfl hb hx hc) (by rw [Nat.sub_self]; exact q)
@[go_sem] theorem e_nil : Ev dr P N ops Q [] l hp n acc = endE dr ops acc (Q .normal (S l hp n)) := by unfold Ev; rfl
@[go_sem] theorem e_cons (o : Oper) : Ev dr P N ops Q (o :: r) l hp n acc = (match wantA ops (look l) o with
    | some true => match opv P n (evO (look l)) hp o.op with
      | some (v, h1) => dstE N o.dst ∧ Ev dr P N ops Q r (putE l o.dst v) h1 (n + 1) (fpC dr ⟨n, 1, rdN (evO (look l)) o.op, wrN (evO (look l)) o.op⟩ acc)
      | none => Ex dr P N ops Q (o :: r) (S l hp n) acc
    | some false => dstE N o.dst ∧ Ev dr P N ops Q r (putE l o.dst (.tup [])) hp n (fpC dr ⟨n, 0, [], []⟩ acc)
    | none => Ex dr P N ops Q (o :: r) (S l hp n) acc) := by conv => lhs; unfold Ev
@[go_sem] theorem e_end0 (K : Prop) : endE false ops acc K = K := by simp [endE]
@[go_sem] theorem e_end1 (K : Prop) : endE true ops acc K = (pairsB ops acc.reverse = true ∧ K) := by simp [endE]
@[go_sem] theorem e_fp0 (x : FP) : fpC false x acc = acc := rfl
@[go_sem] theorem e_fp1 (x : FP) : fpC true x acc = x :: acc := rfl
@[go_sem] theorem e_d0 : dstE N none = True := rfl
@[go_sem] theorem e_d1 (d : Nat) : dstE N (some d) = (d < N) := rfl
@[go_sem] theorem e_p0 (v : AV) : putE l none v = l := rfl
@[go_sem] theorem e_p1 (d : Nat) (v : AV) : putE l (some d) v = (d, v) :: l := rfl
@[go_sem] theorem e_w0 {sl : Nat → AV} {d : Option Tmp} {op : Op} {ty : TypeId} {pos : String} {after : Array Edge} : wantA ops sl ⟨d, op, ty, pos, after, none⟩ = some true := rfl
@[go_sem] theorem e_w1 {os : List Oper} {sl : Nat → AV} {d : Option Tmp} {op : Op} {ty : TypeId} {pos : String} {after : Array Edge} {j : Nat} {w : Bool} : wantA os.toArray sl ⟨d, op, ty, pos, after, some (j, w)⟩ = match (os[j]?).bind (·.dst) with
    | some t => wantV w (sl t)
    | none => none := by unfold wantA; simp; rfl
@[go_sem] theorem e_wb (w x : Bool) : wantV w (.t (.c (.d (.s (.bool x))))) = some (x == w) := rfl
@[go_sem] theorem e_wn (w : Bool) : wantV w (.tup []) = some false := rfl
@[go_sem] theorem e_call (f : Operand) (args : Array Operand) (ts : Array TypeId) {nm : Nat} {ev : Operand → AV} : opv P nm ev hp (.call { callee := .value f, args := args, argTypes := ts }) = none := rfl
@[go_sem] theorem e_bt (b : Bool) : (b == true) = b := by cases b <;> rfl
@[go_sem] theorem e_tf : (true == false) = false := rfl
@[go_sem] theorem e_ff : (false == false) = true := rfl
@[go_sem] theorem e_g0 {α : Type} (a : α) (r : List α) : (a :: r)[0]? = some a := rfl
@[go_sem] theorem e_g1 {α : Type} (a : α) (r : List α) (j : Nat) : (a :: r)[j + 1]? = r[j]? := by simp
@[go_sem] theorem e_lc {α : Type} (a : α) (r : List α) : (a :: r).length = r.length + 1 := rfl
@[go_sem] theorem e_l0 {α : Type} : ([] : List α).length = 0 := rfl
@[go_sem] theorem e_t0 {α : Type} (r : List α) : r.take 0 = [] := rfl
@[go_sem] theorem e_t1 {α : Type} (a : α) (r : List α) (j : Nat) : (a :: r).take (j + 1) = a :: r.take j := rfl
@[go_sem] theorem e_tn {α : Type} (j : Nat) : ([] : List α).take j = [] := by simp
@[go_sem] theorem e_dr0 {α : Type} (r : List α) : r.drop 0 = r := rfl
@[go_sem] theorem e_dr1 {α : Type} (a : α) (r : List α) (j : Nat) : (a :: r).drop (j + 1) = r.drop j := rfl
@[go_sem] theorem e_drn {α : Type} (j : Nat) : ([] : List α).drop j = [] := by simp
@[go_sem] theorem e_ac {α : Type} (a : α) (r s : List α) : (a :: r) ++ s = a :: (r ++ s) := rfl
@[go_sem] theorem e_an {α : Type} (s : List α) : [] ++ s = s := rfl
@[go_sem] theorem e_na {α : Type} (s : List α) : s ++ [] = s := by simp
@[go_sem] theorem e_s0 {α : Type} (a b : α) (r : List α) : (a :: r).set 0 b = b :: r := rfl
@[go_sem] theorem e_s1 {α : Type} (a b : α) (r : List α) (j : Nat) : (a :: r).set (j + 1) b = a :: r.set j b := rfl
@[go_sem] theorem e_allc {α : Type} (p : α → Bool) (a : α) (r : List α) : (a :: r).all p = (p a && r.all p) := by simp
@[go_sem] theorem e_alln {α : Type} (p : α → Bool) : ([] : List α).all p = true := rfl
@[go_sem] theorem e_bat (b : Bool) : (b && true) = b := by simp
@[go_sem] theorem e_bta (b : Bool) : (true && b) = b := by simp
@[go_sem] theorem e_bot (b : Bool) : (b || true) = true := by simp
@[go_sem] theorem e_bto (b : Bool) : (true || b) = true := rfl
@[go_sem] theorem e_bof (b : Bool) : (b || false) = b := by simp
@[go_sem] theorem e_bfo (b : Bool) : (false || b) = b := rfl
@[go_sem] theorem e_nt : (!true) = false := rfl
@[go_sem] theorem e_nf : (!false) = true := rfl
@[go_sem] theorem e_dt : decide True = true := rfl
@[go_sem] theorem e_df : decide False = false := rfl
@[go_sem] theorem e_apt (p : Prop) : (p ∧ True) = p := by simp
@[go_sem] theorem e_atp (p : Prop) : (True ∧ p) = p := by simp
@[go_sem] theorem e_fe : (false = true) = False := by simp
@[go_sem] theorem e_te : (true = true) = True := by simp
@[go_sem] theorem e_beq {α : Type} [BEq α] [ReflBEq α] (a : α) : (a == a) = true := by simp
@[go_sem] theorem e_gm {α β : Type} (f : α → β) (l : List α) (i : Nat) : (l.map f)[i]? = (l[i]?).map f := by simp
@[go_sem] theorem e_lm {α β : Type} (f : α → β) (l : List α) : (l.map f).length = l.length := by simp
@[go_sem] theorem e_tn' (i : Nat) : ((i : Int)).toNat = i := rfl
@[go_sem] theorem e_nn (i : Nat) : (0 ≤ (i : Int)) = True := by simp
@[go_sem] theorem e_ll (i : Nat) : (i ≤ i) = True := by simp
@[go_sem] theorem e_z (i : Nat) : 0 + i = i := by simp
@[go_sem] theorem e_sb (v : Bool) : scal (.bool v) = true := rfl
@[go_sem] theorem e_si (k : IntKind) (v : Int) : scal (.int k v) = true := rfl
@[go_sem] theorem e_ss (v : ByteArray) : scal (.string v) = true := rfl
@[go_sem] theorem e_sl : scal (.slice none 0 0) = true := rfl
@[go_sem] theorem e_sp : scal (.pointer none) = true := rfl
@[go_sem] theorem e_sf : scal .nilFunc = true := rfl
end

def hpL (os : List (Option Obj)) : Hp := fun j => (os[j]?).getD none
@[go_sem] theorem l_c0 (o : Option Obj) (r : List (Option Obj)) : hpL (o :: r) 0 = o := rfl
@[go_sem] theorem l_c1 (o : Option Obj) (r : List (Option Obj)) (j : Nat) : hpL (o :: r) (j + 1) = hpL r j := by simp [hpL]
@[go_sem] theorem l_n (j : Nat) : hpL [] j = none := by simp [hpL]
def updL (hp : Hp) : List Nat → List (Option Obj) → Hp
  | a :: r, o :: s => upd (updL hp r s) a o
  | _, _ => hp
@[go_sem] theorem u_c (hp : Hp) (a : Nat) (r : List Nat) (o : Option Obj) (s : List (Option Obj)) : updL hp (a :: r) (o :: s) = upd (updL hp r s) a o := rfl
@[go_sem] theorem u_n (hp : Hp) (s : List (Option Obj)) : updL hp [] s = hp := by cases s <;> rfl
@[go_sem] theorem n_h (π : Nat → Nat) (m : Nat) : CV.ren π (.h m) = .h (π m) := rfl
@[go_sem] theorem n_p (π : Nat → Nat) (m i j : Nat) : CV.ren π (.ph m i j) = .ph (π m) i j := rfl
@[go_sem] theorem n_d (π : Nat → Nat) (x : D) : CV.ren π (.d x) = .d x := rfl
@[go_sem] theorem n_r (π : Nat → Nat) (x : List D) : CV.ren π (.pr x) = .pr x := rfl
@[go_sem] theorem n_c (π : Nat → Nat) (x : CV) : TV.ren π (.c x) = .c (x.ren π) := rfl
@[go_sem] theorem n_a (π : Nat → Nat) (x : List CV) : TV.ren π (.agg x) = .agg (x.map (CV.ren π)) := rfl
@[go_sem] theorem n_t (π : Nat → Nat) (x : TV) : AV.ren π (.t x) = .t (x.ren π) := rfl
@[go_sem] theorem n_u (π : Nat → Nat) (x : List TV) : AV.ren π (.tup x) = .tup (x.map (TV.ren π)) := rfl
@[go_sem] theorem n_o (π : Nat → Nat) (e k : Nat) (row : Bool) (els : List (List CV)) : Obj.ren π ⟨e, k, row, els⟩ = ⟨e, k, row, els.map (·.map (CV.ren π))⟩ := rfl
@[go_sem] theorem n_dr (π : Nat → Nat) (e k : Nat) (ds : List (List D)) : (dRow e k ds).ren π = dRow e k ds := dRow_ren π e k ds
@[go_sem] theorem p_0 (a : Nat) (r : List Nat) : pin (a :: r) 0 = a := rfl
@[go_sem] theorem p_1 (a : Nat) (r : List Nat) (j : Nat) : pin (a :: r) (j + 1) = pin r j := rfl
@[go_sem] theorem q_n (b j : Nat) : pout [] b j = b + j := by simp [pout]
@[go_sem] theorem q_0 (a b : Nat) (r : List Nat) : pout (a :: r) b 0 = a := by simp [pout, pin]
@[go_sem] theorem q_1 (a b : Nat) (r : List Nat) (j : Nat) : pout (a :: r) b (j + 1) = pout r b j := by
  simp only [pout, List.length_cons, Nat.add_lt_add_iff_right, p_1, Nat.add_sub_add_right]
@[go_sem] theorem m_s (f : Obj → Obj) (o : Obj) : (some o).map f = some (f o) := rfl
/-- What is handed on, object by object. -/
def HandL (hp : Hp) (N : List Nat) : List Nat → List (Option Obj) → Prop
  | a :: r, some o :: s => hp a = some (o.ren (pin N)) ∧ o.bd N.length = true ∧ HandL hp N r s
  | [], [] => True
  | _, _ => False
/-- What is left, object by object. -/
def LeftL (hp : Hp) (M : List Nat) : List Nat → List (Option Obj) → Prop
  | a :: r, some o :: s => hp a = some (o.ren (pin M)) ∧ o.bd M.length = true ∧ LeftL hp M r s
  | _ :: r, none :: s => LeftL hp M r s
  | [], [] => True
  | _, _ => False
@[go_sem] theorem g_0 (n : Nat) : List.range' n 0 = [] := rfl
@[go_sem] theorem g_1 (n j : Nat) : List.range' n (j + 1) = n :: List.range' (n + 1) j := rfl
@[go_sem] theorem b_h (k m : Nat) : CV.bd k (.h m) = decide (m < k) := rfl
@[go_sem] theorem b_p (k m i j : Nat) : CV.bd k (.ph m i j) = decide (m < k) := rfl
@[go_sem] theorem b_d (k : Nat) (x : D) : CV.bd k (.d x) = true := rfl
@[go_sem] theorem b_o (b e k : Nat) (row : Bool) (els : List (List CV)) : Obj.bd b ⟨e, k, row, els⟩ = els.all (·.all (CV.bd b)) := rfl
@[go_sem] theorem b_dr (b e k : Nat) (ds : List (List D)) : (dRow e k ds).bd b = true := dRow_bd b e k ds
@[go_sem] theorem h_c (hp : Hp) (N : List Nat) (a : Nat) (r : List Nat) (o : Obj) (s : List (Option Obj)) : HandL hp N (a :: r) (some o :: s) = (hp a = some (o.ren (pin N)) ∧ o.bd N.length = true ∧ HandL hp N r s) := rfl
@[go_sem] theorem h_n (hp : Hp) (N : List Nat) : HandL hp N [] [] = True := rfl
@[go_sem] theorem f_c (hp : Hp) (N : List Nat) (a : Nat) (r : List Nat) (o : Obj) (s : List (Option Obj)) : LeftL hp N (a :: r) (some o :: s) = (hp a = some (o.ren (pin N)) ∧ o.bd N.length = true ∧ LeftL hp N r s) := rfl
@[go_sem] theorem f_s (hp : Hp) (N : List Nat) (a : Nat) (r : List Nat) (s : List (Option Obj)) : LeftL hp N (a :: r) (none :: s) = LeftL hp N r s := rfl
@[go_sem] theorem f_n (hp : Hp) (N : List Nat) : LeftL hp N [] [] = True := rfl
@[go_sem] theorem d_f0 (e k : Nat) : (⟨e, k, true, []⟩ : Obj) = dRow e k [] := rfl
@[go_sem] theorem d_ma {α β : Type} (f : α → β) (a b : List α) : List.map f (a ++ b) = List.map f a ++ List.map f b := List.map_append
@[go_sem] theorem d_la {α : Type} (a b : List α) : (a ++ b).length = a.length + b.length := List.length_append
@[go_sem] theorem d_f1 (e k : Nat) (ds : List (List D)) (a0 : D) : (⟨e, k, true, List.map (fun x => List.map CV.d x) ds ++ [[.d a0]]⟩ : Obj) = dRow e k (ds ++ [[a0]]) := by simp [dRow]
@[go_sem] theorem d_l1 (e k : Nat) (a0 : D) : (⟨e, k, true, [[.d a0]]⟩ : Obj) = dRow e k [[a0]] := rfl
@[go_sem] theorem d_f2 (e k : Nat) (ds : List (List D)) (a0 a1 : D) : (⟨e, k, true, List.map (fun x => List.map CV.d x) ds ++ [[.d a0, .d a1]]⟩ : Obj) = dRow e k (ds ++ [[a0, a1]]) := by simp [dRow]
@[go_sem] theorem d_l2 (e k : Nat) (a0 a1 : D) : (⟨e, k, true, [[.d a0, .d a1]]⟩ : Obj) = dRow e k [[a0, a1]] := rfl
@[go_sem] theorem d_f3 (e k : Nat) (ds : List (List D)) (a0 a1 a2 : D) : (⟨e, k, true, List.map (fun x => List.map CV.d x) ds ++ [[.d a0, .d a1, .d a2]]⟩ : Obj) = dRow e k (ds ++ [[a0, a1, a2]]) := by simp [dRow]
@[go_sem] theorem d_l3 (e k : Nat) (a0 a1 a2 : D) : (⟨e, k, true, [[.d a0, .d a1, .d a2]]⟩ : Obj) = dRow e k [[a0, a1, a2]] := rfl
@[go_sem] theorem d_f4 (e k : Nat) (ds : List (List D)) (a0 a1 a2 a3 : D) : (⟨e, k, true, List.map (fun x => List.map CV.d x) ds ++ [[.d a0, .d a1, .d a2, .d a3]]⟩ : Obj) = dRow e k (ds ++ [[a0, a1, a2, a3]]) := by simp [dRow]
@[go_sem] theorem d_l4 (e k : Nat) (a0 a1 a2 a3 : D) : (⟨e, k, true, [[.d a0, .d a1, .d a2, .d a3]]⟩ : Obj) = dRow e k [[a0, a1, a2, a3]] := rfl
@[go_sem] theorem d_f5 (e k : Nat) (ds : List (List D)) (a0 a1 a2 a3 a4 : D) : (⟨e, k, true, List.map (fun x => List.map CV.d x) ds ++ [[.d a0, .d a1, .d a2, .d a3, .d a4]]⟩ : Obj) = dRow e k (ds ++ [[a0, a1, a2, a3, a4]]) := by simp [dRow]
@[go_sem] theorem d_l5 (e k : Nat) (a0 a1 a2 a3 a4 : D) : (⟨e, k, true, [[.d a0, .d a1, .d a2, .d a3, .d a4]]⟩ : Obj) = dRow e k [[a0, a1, a2, a3, a4]] := rfl
@[go_sem] theorem e_il (i : Int) : (i ≤ i) = True := by simp
@[go_sem] theorem e_zc (i : Nat) : (((0 : Nat) : Int) ≤ (i : Int)) = True := by simp
theorem dk {ops : Array Oper} {l : List FP} {K : Prop} (h : pairsB ops l = true) (k : K) : pairsB ops l = true ∧ K := ⟨h, k⟩
theorem upd_hpL0 (o : Option Obj) (r : List (Option Obj)) (x : Option Obj) : upd (hpL (o :: r)) 0 x = hpL (x :: r) := by
  funext m
  cases m with
  | zero => rfl
  | succ m => rw [upd_ne _ _ (by omega), l_c1, l_c1]
theorem hp1_L (o : Obj) : hp1 o = hpL [some o] := by
  funext m
  cases m with
  | zero => rfl
  | succ m => rw [l_c1, l_n]; exact upd_ne _ _ (by omega)
section
variable {P : Program} {N k : Nat} {l : List (Nat × AV)} {hp : Hp} {n : Nat}
theorem hpL_none {os : List (Option Obj)} {j : Nat} (h : os.length ≤ j) : hpL os j = none := by simp [hpL, List.getElem?_eq_none h]
theorem updL_not {a : Nat} : ∀ {N : List Nat} {os : List (Option Obj)}, a ∉ N → updL hp N os a = hp a
  | [], os, _ => by cases os <;> rfl
  | b :: r, [], _ => rfl
  | b :: r, o :: s, h => by
    simp only [List.mem_cons, not_or] at h
    rw [u_c, upd_ne _ _ h.1, updL_not h.2]
theorem updL_get : ∀ {N : List Nat} {os : List (Option Obj)} {i : Nat} {a : Nat}, N.Nodup → N[i]? = some a → i < os.length → updL hp N os a = hpL os i
  | [], _, i, a, _, h, _ => by simp at h
  | b :: r, [], i, a, _, _, h => by simp at h
  | b :: r, o :: s, 0, a, _, h, _ => by simp at h; subst h; rw [u_c, upd_same]; rfl
  | b :: r, o :: s, i + 1, a, hn, h, hl => by
    rw [List.nodup_cons] at hn
    have h' : r[i]? = some a := by simpa using h
    have : a ≠ b := fun e => hn.1 (e ▸ List.mem_of_getElem? h')
    rw [u_c, upd_ne _ _ this, updL_get hn.2 h' (by simpa using hl), l_c1]
theorem hpOut_L {N' : List Nat} {cnt : Nat} {os : List (Option Obj)} (hd : N'.Nodup) (hlt : ∀ m ∈ N', m < n) (hl : os.length = N'.length + cnt) : hpOut hp N' n cnt (hpL os) = updL hp (N' ++ List.range' n cnt) (os.map (·.map (Obj.ren (pout N' n)))) := by
  have hnd : (N' ++ List.range' n cnt).Nodup := by
    rw [List.nodup_append]
    refine ⟨hd, List.nodup_range', fun a ha b hb e => ?_⟩
    have h1 := hlt a ha
    have h2 := (List.mem_range'_1.1 hb).1
    omega
  have hm : ∀ i, hpL (os.map (·.map (Obj.ren (pout N' n)))) i = (hpL os i).map (Obj.ren (pout N' n)) := fun i => by
    simp only [hpL, List.getElem?_map]
    cases os[i]? <;> rfl
  funext m
  unfold hpOut
  by_cases h1 : inR n cnt m
  · rw [if_pos h1]
    have h1' := h1
    unfold inR at h1'
    have hi : (N' ++ List.range' n cnt)[m - n + N'.length]? = some m := by
      rw [List.getElem?_append_right (by omega), List.getElem?_range' (by omega)]
      congr 1; omega
    rw [updL_get hnd hi (by simp; omega), hm]
  · rw [if_neg h1]
    by_cases h2 : m ∈ N'
    · rw [if_pos h2]
      have hi : (N' ++ List.range' n cnt)[N'.idxOf m]? = some m := by
        have h3 : N'.idxOf m < N'.length := List.idxOf_lt_length_of_mem h2
        rw [List.getElem?_append_left h3, List.getElem?_eq_getElem h3, List.getElem_idxOf]
      rw [updL_get hnd hi (by simp; have := List.idxOf_lt_length_of_mem h2; omega), hm]
    · rw [if_neg h2, updL_not]
      simp only [List.mem_append, not_or]
      refine ⟨h2, fun h3 => h1 ?_⟩
      have := List.mem_range'_1.1 h3
      unfold inR; omega
theorem handL_get {N : List Nat} : ∀ {r : List Nat} {s : List (Option Obj)}, HandL hp N r s → r.length = s.length ∧ ∀ j, j < r.length → ∃ o, s[j]? = some (some o) ∧ hp (pin r j) = some (o.ren (pin N)) ∧ o.bd N.length = true
  | [], [], _ => ⟨rfl, fun j hj => by simp at hj⟩
  | a :: r, some o :: s, h => by
    obtain ⟨h1, h2, h3⟩ := h
    obtain ⟨h4, h5⟩ := handL_get h3
    refine ⟨by simp [h4], fun j hj => ?_⟩
    cases j with
    | zero => exact ⟨o, rfl, h1, h2⟩
    | succ j => obtain ⟨q, q1, q2, q3⟩ := h5 j (by simpa using hj); exact ⟨q, by simpa using q1, q2, q3⟩
  | [], _ :: _, h => h.elim
  | _ :: _, [], h => h.elim
  | _ :: _, none :: _, h => h.elim
/-- A call that hands objects on. -/
theorem call_L {f : FuncId} {va : List AV} {ta tb : List TV} {N' L : List Nat} {hs os : List (Option Obj)} {x : AV} {m : Nat} (hc : AC P f tb (hpL hs) N'.length ⟨x, hpL os, m⟩) (hv : va = ta.map AV.t) (hB : All2 (Arg hp N' L) ta tb)
    (hd : N'.Nodup) (hlt : ∀ q ∈ N', q < n) (hap : ∀ q ∈ L, q ∉ N') (hh : HandL hp N' N' hs) (hf : L = [] ∨ (x.flat = true ∧ ∀ o ∈ os, ∀ q, o = some q → q.flat = true)) (hl : os.length = m) (hm : N'.length ≤ m) :
    CallOk P f hp va n (x.ren (pout N' n)) (updL hp (N' ++ List.range' n (m - N'.length)) (os.map (·.map (Obj.ren (pout N' n))))) (n + (m - N'.length)) (N' ++ L) N' := by
  obtain ⟨h1, h2⟩ := handL_get hh
  refine ⟨ta, tb, hpL hs, N', L, ⟨x, hpL os, m⟩, hv, hB, ⟨hd, hap, fun j o hj => ?_, fun j hj => ?_⟩, hf.imp id fun h => ⟨h.1, fun j q hq => ?_⟩, hc, rfl, ?_, rfl, rfl, rfl⟩
  · rcases Nat.lt_or_ge j N'.length with h | h
    · exact h
    · rw [hpL_none (by omega)] at hj; cases hj
  · obtain ⟨o, q1, q2, q3⟩ := h2 j hj
    exact ⟨o, by simp [hpL, q1], q2, q3⟩
  · simp only [hpL] at hq
    cases ho : os[j]? with
    | none => rw [ho] at hq; simp at hq
    | some o => rw [ho] at hq; simp at hq; exact h.2 o (List.mem_of_getElem? ho) q hq
  · exact (hpOut_L hd hlt (by omega)).symm
theorem leftL_get {M : List Nat} : ∀ {r : List Nat} {s : List (Option Obj)}, LeftL hp M r s → r.length = s.length ∧ ∀ j o, hpL s j = some o → j < r.length ∧ hp (pin r j) = some (o.ren (pin M)) ∧ o.bd M.length = true
  | [], [], _ => ⟨rfl, fun j o h => by rw [l_n] at h; cases h⟩
  | a :: r, some o :: s, h => by
    obtain ⟨h1, h2, h3⟩ := h
    obtain ⟨h4, h5⟩ := leftL_get h3
    refine ⟨by simp [h4], fun j q hq => ?_⟩
    cases j with
    | zero => rw [l_c0] at hq; obtain rfl := Option.some.inj hq; exact ⟨by simp, h1, h2⟩
    | succ j => rw [l_c1] at hq; obtain ⟨q1, q2, q3⟩ := h5 j q hq; exact ⟨by simpa using q1, q2, q3⟩
  | a :: r, none :: s, h => by
    obtain ⟨h4, h5⟩ := leftL_get (r := r) (s := s) h
    refine ⟨by simp [h4], fun j q hq => ?_⟩
    cases j with
    | zero => rw [l_c0] at hq; cases hq
    | succ j => rw [l_c1] at hq; obtain ⟨q1, q2, q3⟩ := h5 j q hq; exact ⟨by simpa using q1, q2, q3⟩
  | [], _ :: _, h => h.elim
  | _ :: _, [], h => h.elim
def notInB (a : Nat) : List Nat → List (Option Obj) → Bool
  | b :: r, some _ :: s => !(Nat.beq a b) && notInB a r s
  | _ :: r, none :: s => notInB a r s
  | _, _ => true
/-- Names of what is left are told once. -/
def liveB : List Nat → List (Option Obj) → Bool
  | a :: r, some _ :: s => notInB a r s && liveB r s
  | _ :: r, none :: s => liveB r s
  | _, _ => true
theorem notInB_get {a : Nat} : ∀ {r : List Nat} {s : List (Option Obj)}, notInB a r s = true → ∀ j o, j < r.length → hpL s j = some o → a ≠ pin r j
  | [], s, _, j, o, hj, _ => by simp at hj
  | b :: r, [], _, j, o, _, h => by rw [l_n] at h; cases h
  | b :: r, some _ :: s, h, 0, o, _, _ => by
    simp only [notInB, Bool.and_eq_true, Bool.not_eq_true'] at h
    exact fun e => Nat.ne_of_beq_eq_false h.1 e
  | b :: r, none :: s, h, 0, o, _, hh => by rw [l_c0] at hh; cases hh
  | b :: r, some _ :: s, h, j + 1, o, hj, hh => by
    simp only [notInB, Bool.and_eq_true] at h
    rw [l_c1] at hh; exact notInB_get h.2 j o (by simpa using hj) hh
  | b :: r, none :: s, h, j + 1, o, hj, hh => by
    rw [l_c1] at hh; exact notInB_get (by simpa [notInB] using h) j o (by simpa using hj) hh
theorem liveB_inj : ∀ {M : List Nat} {os : List (Option Obj)}, liveB M os = true → ∀ m m' o o', m < M.length → m' < M.length → hpL os m = some o → hpL os m' = some o' → pin M m = pin M m' → m = m'
  | [], _, _, m, _, _, _, h, _, _, _, _ => by simp at h
  | a :: r, [], _, m, m', o, o', _, _, h, _, _ => by rw [l_n] at h; cases h
  | a :: r, p :: s, hl, 0, 0, o, o', _, _, _, _, _ => rfl
  | a :: r, none :: s, hl, 0, m' + 1, o, o', _, _, h, _, _ => by rw [l_c0] at h; cases h
  | a :: r, none :: s, hl, m + 1, 0, o, o', _, _, _, h, _ => by rw [l_c0] at h; cases h
  | a :: r, some p :: s, hl, 0, m' + 1, o, o', _, hm, _, h, e => by
    simp only [liveB, Bool.and_eq_true] at hl
    rw [l_c1] at h
    exact absurd e (notInB_get hl.1 m' o' (by simpa using hm) h)
  | a :: r, some p :: s, hl, m + 1, 0, o, o', hm, _, h, _, e => by
    simp only [liveB, Bool.and_eq_true] at hl
    rw [l_c1] at h
    exact absurd e.symm (notInB_get hl.1 m o (by simpa using hm) h)
  | a :: r, p :: s, hl, m + 1, m' + 1, o, o', h1, h2, h3, h4, e => by
    rw [l_c1] at h3 h4
    have hl' : liveB r s = true := by
      cases p with
      | none => simpa [liveB] using hl
      | some p => simp only [liveB, Bool.and_eq_true] at hl; exact hl.2
    exact congrArg (· + 1) (liveB_inj hl' m m' o o' (by simpa using h1) (by simpa using h2) h3 h4 e)
theorem selL {M : List Nat} {os : List (Option Obj)} (hd : liveB M os = true) (h : LeftL hp M M os) : HpSel M hp (hpL os) :=
  ⟨fun m m' o o' h1 h2 e => liveB_inj hd m m' o o' ((leftL_get h).2 m o h1).1 ((leftL_get h).2 m' o' h2).1 h1 h2 e, fun m o hm => (leftL_get h).2 m o hm⟩
def idM (k : Nat) (M : List Nat) : Prop := ∀ m, m < k → m < M.length ∧ pin M m = m
/-- The end of a function, with several objects. -/
theorem retL {rs : List ResultVar} {e : Exit} {x y : AV} {M : List Nat} {os : List (Option Obj)} {m : Nat} (he : e = .ret ∨ e = .normal) (h : resA P rs (look l) hp = some x) (hx : x = y.ren (pin M)) (hb : y.bd M.length = true) (hd : liveB M os = true) (ho : LeftL hp M M os) (hm : M.length ≤ m) (hk : idM k M) :
    RetQ P rs k ⟨y, hpL os, m⟩ e (S l hp n) :=
  ⟨he.symm, M, ⟨by rw [h, hx], hb, selL hd ho, hm, hk⟩⟩
/-- A state under new names, with several objects. -/
theorem rwL {l' : List (Nat × AV)} {M : List Nat} {os : List (Option Obj)} {n' : Nat} (h : ChkM M l l') (hd : liveB M os = true) (ho : LeftL hp M M os) (hn : M.length ≤ n') (hk : idM k M) : Rw k M (S l hp n) (S l' (hpL os) n') := rwM h (selL hd ho) hn hk
/-- nil in a variable's cell is a row of our own, too. -/
theorem Aw.ownC {x : Code} {Q : Exit → St → Prop} {m i e0 k0 e j : Nat} {cs : List CV} (hm : hp m = some ⟨e0, k0, false, [cs]⟩) (hi : cs[i]? = some (.d (.s (.slice none 0 0)))) (hj : 0 < j) {n1 : Nat} (hn : n + 1 = n1) {hp' : Hp} (hh : hp' = upd (upd hp n (some ⟨e, j, true, []⟩)) m (some ⟨e0, k0, false, [cs.set i (.h n)]⟩))
    (q : Aw P N k x Q (S l hp' n1)) : Aw P N k x Q (S l hp n) := fun c a r => by
  subst hn; subst hh
  have hU : ¬ c.U n := fun h => by have := r.nm n h; simp only [] at this; omega
  have hmn : m ≠ n := fun h => hU (h ▸ r.good.dom m _ hm)
  have hrep : ORep (c.name n 0 (.slice none 0 0) j) n ⟨e, j, true, []⟩ := by
    refine ⟨by simp [Cx.name], hj, [], ⟨by simp, by simp, fun i j cs x hi => by simp at hi⟩, .inl ⟨rfl, ?_, fun b hb => ?_⟩⟩
    · simp only [Cx.name, upd_same, List.length_nil]
      exact ⟨by simp, .inl ⟨rfl, rfl⟩⟩
    · simp [Cx.name, Value.ownBlock] at hb
  have hb : ∀ y, blk (c.name n 0 (.slice none 0 0) j) n ⟨e, j, true, []⟩ ≠ some y := fun y => by simp [blk, Cx.name, Value.ownBlock]
  have g := r.good.add hU hrep (fun y hy => absurd hy (hb y))
  have t1 := (Tr.refl c hp).add r.good (fun m o h => r.good.dom m o h) hU (b := 0) (k := j) (v := .slice none 0 0) (o := ⟨e, j, true, []⟩) (fun _ h => h) (fun y hy => absurd hy (hb y))
  have le := Cx.le_name hU 0 (.slice none 0 0) j
  have hm2 : upd hp n (some ⟨e, j, true, []⟩) m = some ⟨e0, k0, false, [cs]⟩ := by rw [upd_ne _ _ hmn]; exact hm
  have ho : ORep (c.name n 0 (.slice none 0 0) j) m ⟨e0, k0, false, [cs.set i (.h n)]⟩ := by
    obtain ⟨q1, q2, xs, ⟨q3, q4, q5⟩, ⟨q6, _⟩ | ⟨_, q6, q7⟩⟩ := g.obj m _ hm2
    · cases q6
    · refine ⟨q1, q2, xs, ⟨q3, by simpa using q4, fun i' j' cs' y hi' hy => ?_⟩, .inr ⟨rfl, q6, rfl⟩⟩
      match i', hi' with
      | 0, hi' =>
        simp at hi'; subst hi'
        by_cases hjj : j' = i
        · subst hjj
          obtain ⟨u, hu, hr⟩ := q5 0 j' cs (.d (.s (.slice none 0 0))) rfl hi
          have hlt : j' < cs.length := (List.getElem?_eq_some_iff.1 hi).1
          rw [List.getElem?_set_self hlt] at hy
          obtain rfl := Option.some.inj hy
          refine ⟨u, hu, .inr rfl, ?_, ?_⟩
          · rw [repD_s hr]; simp [Cx.name]
          · rw [repD_s hr]; rfl
        · rw [List.getElem?_set_ne (fun e => hjj e.symm)] at hy
          exact q5 0 j' cs y rfl hy
  have hbk : blk (c.name n 0 (.slice none 0 0) j) m ⟨e0, k0, false, [cs.set i (.h n)]⟩ = blk (c.name n 0 (.slice none 0 0) j) m ⟨e0, k0, false, [cs]⟩ := by simp [blk]
  have g2 := g.put hm2 hbk ho
  have t2 := t1.put hm2 hbk
  refine wp_mono (q (c.name n 0 (.slice none 0 0) j) a ⟨fun t' => RepA.mono le (r.sl t'), g2, fun m hm => ?_, r.sz, r.df⟩) fun e a w q => AQ.trans (c1 := c.name n 0 (.slice none 0 0) j) t2.tk q
  rcases hm with hm | rfl
  · have := r.nm m hm; simp only [] at this ⊢; omega
  · simp
theorem hpL_nil : hpL [] = noHp := by funext m; rw [l_n]; rfl
/-- A call with data alone, of a function that gives objects. -/
theorem call_N {f : FuncId} {va : List AV} {ta tb : List TV} {L : List Nat} {os : List (Option Obj)} {x : AV} {m : Nat} (hc : AC P f tb noHp 0 ⟨x, hpL os, m⟩) (hv : va = ta.map AV.t) (hB : All2 (Arg hp [] L) ta tb)
    (hf : L = [] ∨ (x.flat = true ∧ ∀ o ∈ os, ∀ q, o = some q → q.flat = true)) (hl : os.length = m) :
    CallOk P f hp va n (x.ren (pout [] n)) (updL hp (List.range' n m) (os.map (·.map (Obj.ren (pout [] n))))) (n + m) L [] := by
  have := call_L (P := P) (hp := hp) (n := n) (f := f) (va := va) (N' := []) (L := L) (hs := []) (by rw [hpL_nil]; exact hc) hv hB List.nodup_nil (by simp) (by simp) trivial hf hl (Nat.zero_le _)
  simpa using this
/-- Where ways meet again: behind a loop that is left; behind any other piece. -/
theorem cut_loop {ι : Type} {x y : Code} {i : Nat} {Q : Exit → St → Prop} {s : St} (J : ι → St) (h1 : Aw P N k x (fun e s => e = .exit i ∧ ∃ j M, Rw k M s (J j)) s) (h2 : ∀ j, Aw P N k y Q (J j)) : Aw P N k x (blockQ i (seqQ P N k y Q)) s :=
  Aw.post_rw (h1.mono fun e s ⟨he, j, M, hr⟩ => ⟨M, J j, hr, by subst he; simp only [blockQ, if_true]; exact h2 j⟩)
theorem cut_seq {ι : Type} {x y : Code} {Q : Exit → St → Prop} {s : St} (J : ι → St) (h1 : Aw P N k x (fun e s => e = .normal ∧ ∃ j M, Rw k M s (J j)) s) (h2 : ∀ j, Aw P N k y Q (J j)) : Aw P N k x (seqQ P N k y Q) s :=
  Aw.post_rw (h1.mono fun e s ⟨he, j, M, hr⟩ => ⟨M, J j, hr, by subst he; exact h2 j⟩)
end
open Go Go.Proofs
@[go_sem] theorem ti1 : tiOf Tryz.prog 1 = some ⟨.fn, 1, 8, [.nilFunc]⟩ := by kernel_rfl
@[go_sem] theorem ti2 : tiOf Tryz.prog 2 = some ⟨.int .i64, 1, 8, [.int .i64 0]⟩ := by kernel_rfl
@[go_sem] theorem ti3 : tiOf Tryz.prog 3 = some ⟨.int .i64, 1, 8, [.int .i64 0]⟩ := by kernel_rfl
@[go_sem] theorem ti4 : tiOf Tryz.prog 4 = some ⟨.bool, 1, 1, [.bool false]⟩ := by kernel_rfl
@[go_sem] theorem ti5 : tiOf Tryz.prog 5 = some ⟨.int .u8, 1, 1, [.int .u8 0]⟩ := by kernel_rfl
@[go_sem] theorem ti6 : tiOf Tryz.prog 6 = some ⟨.int .u8, 1, 1, [.int .u8 0]⟩ := by kernel_rfl
@[go_sem] theorem ti7 : tiOf Tryz.prog 7 = some ⟨.st [(0, 1, false), (1, 1, false), (2, 1, false), (3, 1, false)], 4, 24, [.int .i64 0, .int .i64 0, .bool false, .int .u8 0]⟩ := by kernel_rfl
@[go_sem] theorem ti8 : tiOf Tryz.prog 8 = some ⟨.st [(0, 1, false), (1, 1, false), (2, 1, false), (3, 1, false)], 4, 24, [.int .i64 0, .int .i64 0, .bool false, .int .u8 0]⟩ := by kernel_rfl
@[go_sem] theorem ti9 : tiOf Tryz.prog 9 = some ⟨.str, 1, 16, [.string ByteArray.empty]⟩ := by kernel_rfl
@[go_sem] theorem ti10 : tiOf Tryz.prog 10 = some ⟨.str, 1, 16, [.string ByteArray.empty]⟩ := by kernel_rfl
@[go_sem] theorem ti11 : tiOf Tryz.prog 11 = some ⟨.str, 1, 16, [.string ByteArray.empty]⟩ := by kernel_rfl
@[go_sem] theorem ti12 : tiOf Tryz.prog 12 = some ⟨.int .u64, 1, 8, [.int .u64 0]⟩ := by kernel_rfl
@[go_sem] theorem ti13 : tiOf Tryz.prog 13 = some ⟨.st [(0, 1, false), (1, 1, false)], 2, 24, [.string ByteArray.empty, .int .u64 0]⟩ := by kernel_rfl
@[go_sem] theorem ti14 : tiOf Tryz.prog 14 = some ⟨.st [(0, 1, false), (1, 1, false)], 2, 24, [.string ByteArray.empty, .int .u64 0]⟩ := by kernel_rfl
@[go_sem] theorem ti15 : tiOf Tryz.prog 15 = some ⟨.pt, 1, 8, [.pointer none]⟩ := by kernel_rfl
@[go_sem] theorem ti16 : tiOf Tryz.prog 16 = some ⟨.pt, 1, 8, [.pointer none]⟩ := by kernel_rfl
@[go_sem] theorem ti17 : tiOf Tryz.prog 17 = some ⟨.pt, 1, 8, [.pointer none]⟩ := by kernel_rfl
@[go_sem] theorem ti18 : tiOf Tryz.prog 18 = some ⟨.st [(0, 1, false)], 1, 8, [.pointer none]⟩ := by kernel_rfl
@[go_sem] theorem ti19 : tiOf Tryz.prog 19 = some ⟨.st [(0, 1, false)], 1, 8, [.pointer none]⟩ := by kernel_rfl
@[go_sem] theorem ti21 : tiOf Tryz.prog 21 = some ⟨.int .i32, 1, 4, [.int .i32 0]⟩ := by kernel_rfl
@[go_sem] theorem ti22 : tiOf Tryz.prog 22 = some ⟨.sl 92, 1, 24, [.slice none 0 0]⟩ := by kernel_rfl
@[go_sem] theorem ti23 : tiOf Tryz.prog 23 = some ⟨.sl 22, 1, 24, [.slice none 0 0]⟩ := by kernel_rfl
@[go_sem] theorem ti24 : tiOf Tryz.prog 24 = some ⟨.sl 94, 1, 24, [.slice none 0 0]⟩ := by kernel_rfl
@[go_sem] theorem ti25 : tiOf Tryz.prog 25 = some ⟨.sl 3, 1, 24, [.slice none 0 0]⟩ := by kernel_rfl
@[go_sem] theorem ti26 : tiOf Tryz.prog 26 = some ⟨.st [(0, 1, false), (1, 1, false), (2, 1, false), (3, 1, false), (4, 1, false), (5, 1, false)], 6, 112, [.slice none 0 0, .slice none 0 0, .slice none 0 0, .int .i64 0, .int .i64 0, .slice none 0 0]⟩ := by kernel_rfl
@[go_sem] theorem ti27 : tiOf Tryz.prog 27 = some ⟨.st [(0, 1, false), (1, 1, false), (2, 1, false), (3, 1, false), (4, 1, false), (5, 1, false)], 6, 112, [.slice none 0 0, .slice none 0 0, .slice none 0 0, .int .i64 0, .int .i64 0, .slice none 0 0]⟩ := by kernel_rfl
@[go_sem] theorem ti28 : tiOf Tryz.prog 28 = some ⟨.fn, 1, 8, [.nilFunc]⟩ := by kernel_rfl
@[go_sem] theorem ti29 : tiOf Tryz.prog 29 = some ⟨.sl 56, 1, 24, [.slice none 0 0]⟩ := by kernel_rfl
@[go_sem] theorem ti30 : tiOf Tryz.prog 30 = some ⟨.sl 29, 1, 24, [.slice none 0 0]⟩ := by kernel_rfl
@[go_sem] theorem ti31 : tiOf Tryz.prog 31 = some ⟨.sl 82, 1, 24, [.slice none 0 0]⟩ := by kernel_rfl
@[go_sem] theorem ti32 : tiOf Tryz.prog 32 = some ⟨.st [(0, 1, false), (1, 1, false), (2, 1, false), (3, 1, false), (4, 1, false), (5, 1, false)], 6, 112, [.slice none 0 0, .slice none 0 0, .slice none 0 0, .int .i64 0, .int .i64 0, .slice none 0 0]⟩ := by kernel_rfl
@[go_sem] theorem ti33 : tiOf Tryz.prog 33 = some ⟨.st [(0, 1, false), (1, 1, false), (2, 1, false), (3, 1, false), (4, 1, false), (5, 1, false)], 6, 112, [.slice none 0 0, .slice none 0 0, .slice none 0 0, .int .i64 0, .int .i64 0, .slice none 0 0]⟩ := by kernel_rfl
@[go_sem] theorem ti35 : tiOf Tryz.prog 35 = some ⟨.fn, 1, 8, [.nilFunc]⟩ := by kernel_rfl
@[go_sem] theorem ti36 : tiOf Tryz.prog 36 = some ⟨.fn, 1, 8, [.nilFunc]⟩ := by kernel_rfl
@[go_sem] theorem ti37 : tiOf Tryz.prog 37 = some ⟨.fn, 1, 8, [.nilFunc]⟩ := by kernel_rfl
@[go_sem] theorem ti38 : tiOf Tryz.prog 38 = some ⟨.fn, 1, 8, [.nilFunc]⟩ := by kernel_rfl
@[go_sem] theorem ti39 : tiOf Tryz.prog 39 = some ⟨.fn, 1, 8, [.nilFunc]⟩ := by kernel_rfl
@[go_sem] theorem ti40 : tiOf Tryz.prog 40 = some ⟨.fn, 1, 8, [.nilFunc]⟩ := by kernel_rfl
@[go_sem] theorem ti41 : tiOf Tryz.prog 41 = some ⟨.fn, 1, 8, [.nilFunc]⟩ := by kernel_rfl
@[go_sem] theorem ti42 : tiOf Tryz.prog 42 = some ⟨.fn, 1, 8, [.nilFunc]⟩ := by kernel_rfl
@[go_sem] theorem ti43 : tiOf Tryz.prog 43 = some ⟨.fn, 1, 8, [.nilFunc]⟩ := by kernel_rfl
@[go_sem] theorem ti44 : tiOf Tryz.prog 44 = some ⟨.fn, 1, 8, [.nilFunc]⟩ := by kernel_rfl
@[go_sem] theorem ti45 : tiOf Tryz.prog 45 = some ⟨.fn, 1, 8, [.nilFunc]⟩ := by kernel_rfl
@[go_sem] theorem ti46 : tiOf Tryz.prog 46 = some ⟨.fn, 1, 8, [.nilFunc]⟩ := by kernel_rfl
@[go_sem] theorem ti47 : tiOf Tryz.prog 47 = some ⟨.fn, 1, 8, [.nilFunc]⟩ := by kernel_rfl
@[go_sem] theorem ti48 : tiOf Tryz.prog 48 = some ⟨.fn, 1, 8, [.nilFunc]⟩ := by kernel_rfl
@[go_sem] theorem ti49 : tiOf Tryz.prog 49 = some ⟨.fn, 1, 8, [.nilFunc]⟩ := by kernel_rfl
@[go_sem] theorem ti50 : tiOf Tryz.prog 50 = some ⟨.fn, 1, 8, [.nilFunc]⟩ := by kernel_rfl
@[go_sem] theorem ti51 : tiOf Tryz.prog 51 = some ⟨.fn, 1, 8, [.nilFunc]⟩ := by kernel_rfl
@[go_sem] theorem ti52 : tiOf Tryz.prog 52 = some ⟨.fn, 1, 8, [.nilFunc]⟩ := by kernel_rfl
@[go_sem] theorem ti53 : tiOf Tryz.prog 53 = some ⟨.fn, 1, 8, [.nilFunc]⟩ := by kernel_rfl
@[go_sem] theorem ti54 : tiOf Tryz.prog 54 = some ⟨.fn, 1, 8, [.nilFunc]⟩ := by kernel_rfl
@[go_sem] theorem af55 : aggFs Tryz.prog 55 = some [(0, .str), (1, .int .i64), (2, .bool), (3, .int .i64)] := by kernel_rfl
@[go_sem] theorem ti55 : tiOf Tryz.prog 55 = some ⟨.st [(0, 1, false), (1, 1, false), (2, 1, false), (3, 1, false)], 4, 40, [.string ByteArray.empty, .int .i64 0, .bool false, .int .i64 0]⟩ := by kernel_rfl
@[go_sem] theorem af56 : aggFs Tryz.prog 56 = some [(0, .str), (1, .int .i64), (2, .bool), (3, .int .i64)] := by kernel_rfl
@[go_sem] theorem ti56 : tiOf Tryz.prog 56 = some ⟨.st [(0, 1, false), (1, 1, false), (2, 1, false), (3, 1, false)], 4, 40, [.string ByteArray.empty, .int .i64 0, .bool false, .int .i64 0]⟩ := by kernel_rfl
@[go_sem] theorem ti57 : tiOf Tryz.prog 57 = some ⟨.fn, 1, 8, [.nilFunc]⟩ := by kernel_rfl
@[go_sem] theorem ti58 : tiOf Tryz.prog 58 = some ⟨.fn, 1, 8, [.nilFunc]⟩ := by kernel_rfl
@[go_sem] theorem ti59 : tiOf Tryz.prog 59 = some ⟨.fn, 1, 8, [.nilFunc]⟩ := by kernel_rfl
@[go_sem] theorem ti60 : tiOf Tryz.prog 60 = some ⟨.fn, 1, 8, [.nilFunc]⟩ := by kernel_rfl
@[go_sem] theorem ti61 : tiOf Tryz.prog 61 = some ⟨.fn, 1, 8, [.nilFunc]⟩ := by kernel_rfl
@[go_sem] theorem ti62 : tiOf Tryz.prog 62 = some ⟨.pt, 1, 8, [.pointer none]⟩ := by kernel_rfl
@[go_sem] theorem ti63 : tiOf Tryz.prog 63 = some ⟨.fn, 1, 8, [.nilFunc]⟩ := by kernel_rfl
@[go_sem] theorem ti64 : tiOf Tryz.prog 64 = some ⟨.fn, 1, 8, [.nilFunc]⟩ := by kernel_rfl
@[go_sem] theorem ti65 : tiOf Tryz.prog 65 = some ⟨.fn, 1, 8, [.nilFunc]⟩ := by kernel_rfl
@[go_sem] theorem ti66 : tiOf Tryz.prog 66 = some ⟨.fn, 1, 8, [.nilFunc]⟩ := by kernel_rfl
@[go_sem] theorem ti67 : tiOf Tryz.prog 67 = some ⟨.fn, 1, 8, [.nilFunc]⟩ := by kernel_rfl
@[go_sem] theorem ti68 : tiOf Tryz.prog 68 = some ⟨.fn, 1, 8, [.nilFunc]⟩ := by kernel_rfl
@[go_sem] theorem ti69 : tiOf Tryz.prog 69 = some ⟨.fn, 1, 8, [.nilFunc]⟩ := by kernel_rfl
@[go_sem] theorem ti70 : tiOf Tryz.prog 70 = some ⟨.fn, 1, 8, [.nilFunc]⟩ := by kernel_rfl
@[go_sem] theorem ti71 : tiOf Tryz.prog 71 = some ⟨.fn, 1, 8, [.nilFunc]⟩ := by kernel_rfl
@[go_sem] theorem ti72 : tiOf Tryz.prog 72 = some ⟨.fn, 1, 8, [.nilFunc]⟩ := by kernel_rfl
@[go_sem] theorem ti73 : tiOf Tryz.prog 73 = some ⟨.fn, 1, 8, [.nilFunc]⟩ := by kernel_rfl
@[go_sem] theorem ti74 : tiOf Tryz.prog 74 = some ⟨.fn, 1, 8, [.nilFunc]⟩ := by kernel_rfl
@[go_sem] theorem ti75 : tiOf Tryz.prog 75 = some ⟨.fn, 1, 8, [.nilFunc]⟩ := by kernel_rfl
@[go_sem] theorem ti76 : tiOf Tryz.prog 76 = some ⟨.fn, 1, 8, [.nilFunc]⟩ := by kernel_rfl
@[go_sem] theorem ti77 : tiOf Tryz.prog 77 = some ⟨.fn, 1, 8, [.nilFunc]⟩ := by kernel_rfl
@[go_sem] theorem ti78 : tiOf Tryz.prog 78 = some ⟨.sl 9, 1, 24, [.slice none 0 0]⟩ := by kernel_rfl
@[go_sem] theorem ti79 : tiOf Tryz.prog 79 = some ⟨.fn, 1, 8, [.nilFunc]⟩ := by kernel_rfl
@[go_sem] theorem ti80 : tiOf Tryz.prog 80 = some ⟨.fn, 1, 8, [.nilFunc]⟩ := by kernel_rfl
@[go_sem] theorem ti81 : tiOf Tryz.prog 81 = some ⟨.st [(0, 1, false), (1, 1, false), (2, 1, false), (3, 1, false), (4, 1, false)], 5, 80, [.string ByteArray.empty, .string ByteArray.empty, .string ByteArray.empty, .slice none 0 0, .int .i64 0]⟩ := by kernel_rfl
@[go_sem] theorem ti82 : tiOf Tryz.prog 82 = some ⟨.st [(0, 1, false), (1, 1, false), (2, 1, false), (3, 1, false), (4, 1, false)], 5, 80, [.string ByteArray.empty, .string ByteArray.empty, .string ByteArray.empty, .slice none 0 0, .int .i64 0]⟩ := by kernel_rfl
@[go_sem] theorem ti83 : tiOf Tryz.prog 83 = some ⟨.fn, 1, 8, [.nilFunc]⟩ := by kernel_rfl
@[go_sem] theorem ti85 : tiOf Tryz.prog 85 = some ⟨.fn, 1, 8, [.nilFunc]⟩ := by kernel_rfl
@[go_sem] theorem ti86 : tiOf Tryz.prog 86 = some ⟨.fn, 1, 8, [.nilFunc]⟩ := by kernel_rfl
@[go_sem] theorem ti87 : tiOf Tryz.prog 87 = some ⟨.fn, 1, 8, [.nilFunc]⟩ := by kernel_rfl
@[go_sem] theorem ti88 : tiOf Tryz.prog 88 = some ⟨.fn, 1, 8, [.nilFunc]⟩ := by kernel_rfl
@[go_sem] theorem ti89 : tiOf Tryz.prog 89 = some ⟨.fn, 1, 8, [.nilFunc]⟩ := by kernel_rfl
@[go_sem] theorem ti90 : tiOf Tryz.prog 90 = some ⟨.fn, 1, 8, [.nilFunc]⟩ := by kernel_rfl
@[go_sem] theorem ti91 : tiOf Tryz.prog 91 = some ⟨.fn, 1, 8, [.nilFunc]⟩ := by kernel_rfl
@[go_sem] theorem af92 : aggFs Tryz.prog 92 = some [(0, .str), (1, .int .i64), (2, .bool), (3, .int .i64)] := by kernel_rfl
@[go_sem] theorem ti92 : tiOf Tryz.prog 92 = some ⟨.st [(0, 1, false), (1, 1, false), (2, 1, false), (3, 1, false)], 4, 40, [.string ByteArray.empty, .int .i64 0, .bool false, .int .i64 0]⟩ := by kernel_rfl
@[go_sem] theorem ti93 : tiOf Tryz.prog 93 = some ⟨.fn, 1, 8, [.nilFunc]⟩ := by kernel_rfl
@[go_sem] theorem ti94 : tiOf Tryz.prog 94 = some ⟨.st [(0, 1, false), (1, 1, false), (2, 1, false), (3, 1, false), (4, 1, false)], 5, 80, [.string ByteArray.empty, .string ByteArray.empty, .string ByteArray.empty, .slice none 0 0, .int .i64 0]⟩ := by kernel_rfl
@[go_sem] theorem ti95 : tiOf Tryz.prog 95 = some ⟨.fn, 1, 8, [.nilFunc]⟩ := by kernel_rfl
@[go_sem] theorem ti96 : tiOf Tryz.prog 96 = some ⟨.fn, 1, 8, [.nilFunc]⟩ := by kernel_rfl
@[go_sem] theorem ti97 : tiOf Tryz.prog 97 = some ⟨.fn, 1, 8, [.nilFunc]⟩ := by kernel_rfl
@[go_sem] theorem ti98 : tiOf Tryz.prog 98 = some ⟨.fn, 1, 8, [.nilFunc]⟩ := by kernel_rfl
@[go_sem] theorem ti100 : tiOf Tryz.prog 100 = some ⟨.fn, 1, 8, [.nilFunc]⟩ := by kernel_rfl
@[go_sem] theorem ti101 : tiOf Tryz.prog 101 = some ⟨.fn, 1, 8, [.nilFunc]⟩ := by kernel_rfl
@[go_sem] theorem ti102 : tiOf Tryz.prog 102 = some ⟨.fn, 1, 8, [.nilFunc]⟩ := by kernel_rfl
@[go_sem] theorem ti103 : tiOf Tryz.prog 103 = some ⟨.fn, 1, 8, [.nilFunc]⟩ := by kernel_rfl
@[go_sem] theorem ti104 : tiOf Tryz.prog 104 = some ⟨.fn, 1, 8, [.nilFunc]⟩ := by kernel_rfl
@[go_sem] theorem ti105 : tiOf Tryz.prog 105 = some ⟨.fn, 1, 8, [.nilFunc]⟩ := by kernel_rfl
@[go_sem] theorem ti107 : tiOf Tryz.prog 107 = some ⟨.fn, 1, 8, [.nilFunc]⟩ := by kernel_rfl
@[go_sem] theorem ti108 : tiOf Tryz.prog 108 = some ⟨.fn, 1, 8, [.nilFunc]⟩ := by kernel_rfl
@[go_sem] theorem ti109 : tiOf Tryz.prog 109 = some ⟨.fn, 1, 8, [.nilFunc]⟩ := by kernel_rfl
@[go_sem] theorem ti110 : tiOf Tryz.prog 110 = some ⟨.fn, 1, 8, [.nilFunc]⟩ := by kernel_rfl
@[go_sem] theorem ti111 : tiOf Tryz.prog 111 = some ⟨.fn, 1, 8, [.nilFunc]⟩ := by kernel_rfl
@[go_sem] theorem ti112 : tiOf Tryz.prog 112 = some ⟨.fn, 1, 8, [.nilFunc]⟩ := by kernel_rfl
@[go_sem] theorem ti113 : tiOf Tryz.prog 113 = some ⟨.sl 4, 1, 24, [.slice none 0 0]⟩ := by kernel_rfl
@[go_sem] theorem ti114 : tiOf Tryz.prog 114 = some ⟨.fn, 1, 8, [.nilFunc]⟩ := by kernel_rfl
@[go_sem] theorem ti115 : tiOf Tryz.prog 115 = some ⟨.fn, 1, 8, [.nilFunc]⟩ := by kernel_rfl
@[go_sem] theorem ti116 : tiOf Tryz.prog 116 = some ⟨.fn, 1, 8, [.nilFunc]⟩ := by kernel_rfl
@[go_sem] theorem ti117 : tiOf Tryz.prog 117 = some ⟨.fn, 1, 8, [.nilFunc]⟩ := by kernel_rfl
@[go_sem] theorem ti118 : tiOf Tryz.prog 118 = some ⟨.fn, 1, 8, [.nilFunc]⟩ := by kernel_rfl
@[go_sem] theorem ti119 : tiOf Tryz.prog 119 = some ⟨.fn, 1, 8, [.nilFunc]⟩ := by kernel_rfl
@[go_sem] theorem ti121 : tiOf Tryz.prog 121 = some ⟨.fn, 1, 8, [.nilFunc]⟩ := by kernel_rfl
@[go_sem] theorem ti122 : tiOf Tryz.prog 122 = some ⟨.fn, 1, 8, [.nilFunc]⟩ := by kernel_rfl
@[go_sem] theorem ti123 : tiOf Tryz.prog 123 = some ⟨.sl 5, 1, 24, [.slice none 0 0]⟩ := by kernel_rfl
@[go_sem] theorem ti124 : tiOf Tryz.prog 124 = some ⟨.fn, 1, 8, [.nilFunc]⟩ := by kernel_rfl
@[go_sem] theorem ti125 : tiOf Tryz.prog 125 = some ⟨.fn, 1, 8, [.nilFunc]⟩ := by kernel_rfl
@[go_sem] theorem ti126 : tiOf Tryz.prog 126 = some ⟨.fn, 1, 8, [.nilFunc]⟩ := by kernel_rfl
@[go_sem] theorem ti127 : tiOf Tryz.prog 127 = some ⟨.fn, 1, 8, [.nilFunc]⟩ := by kernel_rfl
@[go_sem] theorem ti128 : tiOf Tryz.prog 128 = some ⟨.fn, 1, 8, [.nilFunc]⟩ := by kernel_rfl
@[go_sem] theorem ti129 : tiOf Tryz.prog 129 = some ⟨.fn, 1, 8, [.nilFunc]⟩ := by kernel_rfl
@[go_sem] theorem ti130 : tiOf Tryz.prog 130 = some ⟨.st [(0, 1, false), (1, 1, false)], 2, 32, [.slice none 0 0, .int .i64 0]⟩ := by kernel_rfl
@[go_sem] theorem ti131 : tiOf Tryz.prog 131 = some ⟨.st [(0, 1, false), (1, 1, false)], 2, 32, [.slice none 0 0, .int .i64 0]⟩ := by kernel_rfl
@[go_sem] theorem ti132 : tiOf Tryz.prog 132 = some ⟨.sl 131, 1, 24, [.slice none 0 0]⟩ := by kernel_rfl
@[go_sem] theorem ti134 : tiOf Tryz.prog 134 = some ⟨.fn, 1, 8, [.nilFunc]⟩ := by kernel_rfl
@[go_sem] theorem ti135 : tiOf Tryz.prog 135 = some ⟨.fn, 1, 8, [.nilFunc]⟩ := by kernel_rfl
@[go_sem] theorem ti136 : tiOf Tryz.prog 136 = some ⟨.fn, 1, 8, [.nilFunc]⟩ := by kernel_rfl
@[go_sem] theorem ti137 : tiOf Tryz.prog 137 = some ⟨.fn, 1, 8, [.nilFunc]⟩ := by kernel_rfl
@[go_sem] theorem ti138 : tiOf Tryz.prog 138 = some ⟨.fn, 1, 8, [.nilFunc]⟩ := by kernel_rfl
@[go_sem] theorem ti139 : tiOf Tryz.prog 139 = some ⟨.fn, 1, 8, [.nilFunc]⟩ := by kernel_rfl
@[go_sem] theorem ti141 : tiOf Tryz.prog 141 = some ⟨.fn, 1, 8, [.nilFunc]⟩ := by kernel_rfl
@[go_sem] theorem ti142 : tiOf Tryz.prog 142 = some ⟨.fn, 1, 8, [.nilFunc]⟩ := by kernel_rfl
@[go_sem] theorem ti144 : tiOf Tryz.prog 144 = some ⟨.fn, 1, 8, [.nilFunc]⟩ := by kernel_rfl
@[go_sem] theorem ti145 : tiOf Tryz.prog 145 = some ⟨.fn, 1, 8, [.nilFunc]⟩ := by kernel_rfl
@[go_sem] theorem ti146 : tiOf Tryz.prog 146 = some ⟨.fn, 1, 8, [.nilFunc]⟩ := by kernel_rfl
@[go_sem] theorem ti147 : tiOf Tryz.prog 147 = some ⟨.sl 151, 1, 24, [.slice none 0 0]⟩ := by kernel_rfl
@[go_sem] theorem ti149 : tiOf Tryz.prog 149 = some ⟨.fn, 1, 8, [.nilFunc]⟩ := by kernel_rfl
@[go_sem] theorem af150 : aggFs Tryz.prog 150 = some [(0, .str), (1, .bool)] := by kernel_rfl
@[go_sem] theorem ti150 : tiOf Tryz.prog 150 = some ⟨.st [(0, 1, false), (1, 1, false)], 2, 24, [.string ByteArray.empty, .bool false]⟩ := by kernel_rfl
@[go_sem] theorem af151 : aggFs Tryz.prog 151 = some [(0, .str), (1, .bool)] := by kernel_rfl
@[go_sem] theorem ti151 : tiOf Tryz.prog 151 = some ⟨.st [(0, 1, false), (1, 1, false)], 2, 24, [.string ByteArray.empty, .bool false]⟩ := by kernel_rfl
@[go_sem] theorem ti152 : tiOf Tryz.prog 152 = some ⟨.fn, 1, 8, [.nilFunc]⟩ := by kernel_rfl
@[go_sem] theorem ti153 : tiOf Tryz.prog 153 = some ⟨.fn, 1, 8, [.nilFunc]⟩ := by kernel_rfl
@[go_sem] theorem ti154 : tiOf Tryz.prog 154 = some ⟨.int .u64, 1, 8, [.int .u64 0]⟩ := by kernel_rfl
@[go_sem] theorem ti155 : tiOf Tryz.prog 155 = some ⟨.fn, 1, 8, [.nilFunc]⟩ := by kernel_rfl
@[go_sem] theorem ti156 : tiOf Tryz.prog 156 = some ⟨.fn, 1, 8, [.nilFunc]⟩ := by kernel_rfl
@[go_sem] theorem ti157 : tiOf Tryz.prog 157 = some ⟨.fn, 1, 8, [.nilFunc]⟩ := by kernel_rfl
@[go_sem] theorem ti158 : tiOf Tryz.prog 158 = some ⟨.fn, 1, 8, [.nilFunc]⟩ := by kernel_rfl
@[go_sem] theorem ti159 : tiOf Tryz.prog 159 = some ⟨.fn, 1, 8, [.nilFunc]⟩ := by kernel_rfl
@[go_sem] theorem ti160 : tiOf Tryz.prog 160 = some ⟨.fn, 1, 8, [.nilFunc]⟩ := by kernel_rfl
@[go_sem] theorem ti161 : tiOf Tryz.prog 161 = some ⟨.fn, 1, 8, [.nilFunc]⟩ := by kernel_rfl
@[go_sem] theorem ti162 : tiOf Tryz.prog 162 = some ⟨.pt, 1, 8, [.pointer none]⟩ := by kernel_rfl
@[go_sem] theorem ti163 : tiOf Tryz.prog 163 = some ⟨.st [(0, 1, false), (1, 1, false)], 2, 32, [.pointer none, .slice none 0 0]⟩ := by kernel_rfl
@[go_sem] theorem ti164 : tiOf Tryz.prog 164 = some ⟨.st [(0, 1, false), (1, 1, false)], 2, 32, [.pointer none, .slice none 0 0]⟩ := by kernel_rfl
@[go_sem] theorem ti165 : tiOf Tryz.prog 165 = some ⟨.st [(0, 1, false), (1, 1, false)], 2, 32, [.slice none 0 0, .int .i64 0]⟩ := by kernel_rfl
@[go_sem] theorem ti166 : tiOf Tryz.prog 166 = some ⟨.st [(0, 1, false), (1, 1, false)], 2, 32, [.slice none 0 0, .int .i64 0]⟩ := by kernel_rfl
@[go_sem] theorem ti167 : tiOf Tryz.prog 167 = some ⟨.sl 166, 1, 24, [.slice none 0 0]⟩ := by kernel_rfl
@[go_sem] theorem ti170 : tiOf Tryz.prog 170 = some ⟨.fn, 1, 8, [.nilFunc]⟩ := by kernel_rfl
@[go_sem] theorem ti171 : tiOf Tryz.prog 171 = some ⟨.fn, 1, 8, [.nilFunc]⟩ := by kernel_rfl
@[go_sem] theorem ti172 : tiOf Tryz.prog 172 = some ⟨.fn, 1, 8, [.nilFunc]⟩ := by kernel_rfl
@[go_sem] theorem ti173 : tiOf Tryz.prog 173 = some ⟨.fn, 1, 8, [.nilFunc]⟩ := by kernel_rfl
@[go_sem] theorem ti174 : tiOf Tryz.prog 174 = some ⟨.fn, 1, 8, [.nilFunc]⟩ := by kernel_rfl
@[go_sem] theorem ti175 : tiOf Tryz.prog 175 = some ⟨.fn, 1, 8, [.nilFunc]⟩ := by kernel_rfl
@[go_sem] theorem ti176 : tiOf Tryz.prog 176 = some ⟨.int .i64, 1, 8, [.int .i64 0]⟩ := by kernel_rfl
@[go_sem] theorem ti178 : tiOf Tryz.prog 178 = some ⟨.fn, 1, 8, [.nilFunc]⟩ := by kernel_rfl
@[go_sem] theorem ti179 : tiOf Tryz.prog 179 = some ⟨.fn, 1, 8, [.nilFunc]⟩ := by kernel_rfl
@[go_sem] theorem ti180 : tiOf Tryz.prog 180 = some ⟨.fn, 1, 8, [.nilFunc]⟩ := by kernel_rfl
@[go_sem] theorem ti182 : tiOf Tryz.prog 182 = some ⟨.fn, 1, 8, [.nilFunc]⟩ := by kernel_rfl
@[go_sem] theorem ti183 : tiOf Tryz.prog 183 = some ⟨.fn, 1, 8, [.nilFunc]⟩ := by kernel_rfl
@[go_sem] theorem ti184 : tiOf Tryz.prog 184 = some ⟨.int .u32, 1, 4, [.int .u32 0]⟩ := by kernel_rfl
@[go_sem] theorem ti185 : tiOf Tryz.prog 185 = some ⟨.fn, 1, 8, [.nilFunc]⟩ := by kernel_rfl
@[go_sem] theorem ti186 : tiOf Tryz.prog 186 = some ⟨.int .u64, 1, 8, [.int .u64 0]⟩ := by kernel_rfl
@[go_sem] theorem ti187 : tiOf Tryz.prog 187 = some ⟨.fn, 1, 8, [.nilFunc]⟩ := by kernel_rfl
@[go_sem] theorem ti188 : tiOf Tryz.prog 188 = some ⟨.fn, 1, 8, [.nilFunc]⟩ := by kernel_rfl
@[go_sem] theorem ti189 : tiOf Tryz.prog 189 = some ⟨.fn, 1, 8, [.nilFunc]⟩ := by kernel_rfl
@[go_sem] theorem ti190 : tiOf Tryz.prog 190 = some ⟨.pt, 1, 8, [.pointer none]⟩ := by kernel_rfl
@[go_sem] theorem ti191 : tiOf Tryz.prog 191 = some ⟨.fn, 1, 8, [.nilFunc]⟩ := by kernel_rfl
@[go_sem] theorem ti192 : tiOf Tryz.prog 192 = some ⟨.fn, 1, 8, [.nilFunc]⟩ := by kernel_rfl
@[go_sem] theorem ti193 : tiOf Tryz.prog 193 = some ⟨.int .u64, 1, 8, [.int .u64 0]⟩ := by kernel_rfl
@[go_sem] theorem ti194 : tiOf Tryz.prog 194 = some ⟨.fn, 1, 8, [.nilFunc]⟩ := by kernel_rfl
@[go_sem] theorem ti195 : tiOf Tryz.prog 195 = some ⟨.fn, 1, 8, [.nilFunc]⟩ := by kernel_rfl
@[go_sem] theorem ti196 : tiOf Tryz.prog 196 = some ⟨.fn, 1, 8, [.nilFunc]⟩ := by kernel_rfl
@[go_sem] theorem ti197 : tiOf Tryz.prog 197 = some ⟨.pt, 1, 8, [.pointer none]⟩ := by kernel_rfl
@[go_sem] theorem ti198 : tiOf Tryz.prog 198 = some ⟨.fn, 1, 8, [.nilFunc]⟩ := by kernel_rfl
@[go_sem] theorem ti200 : tiOf Tryz.prog 200 = some ⟨.fn, 1, 8, [.nilFunc]⟩ := by kernel_rfl
@[go_sem] theorem ti201 : tiOf Tryz.prog 201 = some ⟨.pt, 1, 8, [.pointer none]⟩ := by kernel_rfl
@[go_sem] theorem ti202 : tiOf Tryz.prog 202 = some ⟨.fn, 1, 8, [.nilFunc]⟩ := by kernel_rfl
@[go_sem] theorem ti204 : tiOf Tryz.prog 204 = some ⟨.fn, 1, 8, [.nilFunc]⟩ := by kernel_rfl
@[go_sem] theorem ti205 : tiOf Tryz.prog 205 = some ⟨.st [(0, 1, false), (1, 1, false), (2, 1, false), (3, 1, false)], 4, 40, [.pointer none, .pointer none, .pointer none, .string ByteArray.empty]⟩ := by kernel_rfl
@[go_sem] theorem ti206 : tiOf Tryz.prog 206 = some ⟨.st [(0, 1, false), (1, 1, false), (2, 1, false), (3, 1, false)], 4, 40, [.pointer none, .pointer none, .pointer none, .string ByteArray.empty]⟩ := by kernel_rfl
@[go_sem] theorem ti210 : tiOf Tryz.prog 210 = some ⟨.fn, 1, 8, [.nilFunc]⟩ := by kernel_rfl
@[go_sem] theorem ti211 : tiOf Tryz.prog 211 = some ⟨.int .u8, 1, 1, [.int .u8 0]⟩ := by kernel_rfl
@[go_sem] theorem ti212 : tiOf Tryz.prog 212 = some ⟨.int .u8, 1, 1, [.int .u8 0]⟩ := by kernel_rfl
@[go_sem] theorem ti213 : tiOf Tryz.prog 213 = some ⟨.fn, 1, 8, [.nilFunc]⟩ := by kernel_rfl
@[go_sem] theorem ti214 : tiOf Tryz.prog 214 = some ⟨.int .i32, 1, 4, [.int .i32 0]⟩ := by kernel_rfl
@[go_sem] theorem ti215 : tiOf Tryz.prog 215 = some ⟨.int .i32, 1, 4, [.int .i32 0]⟩ := by kernel_rfl
@[go_sem] theorem ti216 : tiOf Tryz.prog 216 = some ⟨.st [(0, 1, false), (1, 1, false), (2, 1, false), (3, 1, false), (4, 1, false), (5, 1, false), (6, 1, false), (7, 1, false), (8, 1, false), (9, 1, false), (10, 1, false)], 11, 48, [.int .u64 0, .int .u64 0, .int .u32 0, .int .u8 0, .int .u8 0, .int .u8 0, .int .u8 0, .nilFunc, .pointer none, .int .i32 0, .int .i32 0]⟩ := by kernel_rfl
@[go_sem] theorem ti217 : tiOf Tryz.prog 217 = some ⟨.st [(0, 1, false), (1, 1, false), (2, 1, false), (3, 1, false), (4, 1, false), (5, 1, false), (6, 1, false), (7, 1, false), (8, 1, false), (9, 1, false), (10, 1, false)], 11, 48, [.int .u64 0, .int .u64 0, .int .u32 0, .int .u8 0, .int .u8 0, .int .u8 0, .int .u8 0, .nilFunc, .pointer none, .int .i32 0, .int .i32 0]⟩ := by kernel_rfl
set_option maxRecDepth 10000
theorem in_ac (n lo hi : Int) : AC Tryz.prog 56 [iT n, iT lo, iT hi] noHp 0 ⟨.t (bT (inB lo n hi)), noHp, 0⟩ := by
  refine AC_of Tryz.func56 rfl Tryz.ntmps56 Tryz.results56 (by kernel_rfl) rfl ?_
  simp only [List.zipIdx, List.map, Nat.zero_add, Nat.reduceAdd]
  by_cases h1 : lo ≤ n
  · repeat (first | apply Aw_seq | apply Aw_block | apply Aw_skip | apply Aw_exit | refine Aw_condt rfl ?_ | refine Aw_condf rfl ?_ | ((first | refine qr ?_ | refine qd (by kernel_rfl) (by kernel_rfl) ?_); simp only [go_sem, jE, reduceIte, jA, jM, jS, jL, jD, jB, h1]) | refine dk (by kernel_rfl) ?_)
    exact Aw_ret (ret0 (.inl rfl) (by simp only [go_sem, jE, reduceIte, jA, jM, jS, jL, jD, jB]; rfl) (by simp [inB, h1]) rfl)
  · repeat (first | apply Aw_seq | apply Aw_block | apply Aw_skip | apply Aw_exit | refine Aw_condt rfl ?_ | refine Aw_condf rfl ?_ | ((first | refine qr ?_ | refine qd (by kernel_rfl) (by kernel_rfl) ?_); simp only [go_sem, jE, reduceIte, jA, jM, jS, jL, jD, jB, h1]) | refine dk (by kernel_rfl) ?_)
    exact Aw_ret (ret0 (.inl rfl) (by simp only [go_sem, jE, reduceIte, jA, jM, jS, jL, jD, jB]; rfl) (by simp [inB, h1]) rfl)
theorem l6In_ac (n lo hi : Int) : AC Tryz.prog 52 [iT n, iT lo, iT hi] noHp 0 ⟨.t (bT (inB lo n hi)), noHp, 0⟩ := by
  refine AC_of Tryz.func52 rfl Tryz.ntmps52 Tryz.results52 (by kernel_rfl) rfl ?_
  simp only [List.zipIdx, List.map, Nat.zero_add, Nat.reduceAdd]
  by_cases h1 : lo ≤ n
  · repeat (first | apply Aw_seq | apply Aw_block | apply Aw_skip | apply Aw_exit | refine Aw_condt rfl ?_ | refine Aw_condf rfl ?_ | ((first | refine qr ?_ | refine qd (by kernel_rfl) (by kernel_rfl) ?_); simp only [go_sem, jE, reduceIte, jA, jM, jS, jL, jD, jB, h1]) | refine dk (by kernel_rfl) ?_)
    exact Aw_ret (ret0 (.inl rfl) (by simp only [go_sem, jE, reduceIte, jA, jM, jS, jL, jD, jB]; rfl) (by simp [inB, h1]) rfl)
  · repeat (first | apply Aw_seq | apply Aw_block | apply Aw_skip | apply Aw_exit | refine Aw_condt rfl ?_ | refine Aw_condf rfl ?_ | ((first | refine qr ?_ | refine qd (by kernel_rfl) (by kernel_rfl) ?_); simp only [go_sem, jE, reduceIte, jA, jM, jS, jL, jD, jB, h1]) | refine dk (by kernel_rfl) ?_)
    exact Aw_ret (ret0 (.inl rfl) (by simp only [go_sem, jE, reduceIte, jA, jM, jS, jL, jD, jB]; rfl) (by simp [inB, h1]) rfl)
theorem isKeep_ac (n : Int) : AC Tryz.prog 133 [iT n] noHp 0 ⟨.t (bT (inB 0 n 5)), noHp, 0⟩ := by
  refine AC_of Tryz.func133 rfl Tryz.ntmps133 Tryz.results133 (by kernel_rfl) rfl ?_
  simp only [List.zipIdx, List.map, Nat.zero_add, Nat.reduceAdd]
  repeat (first | apply Aw_seq | apply Aw_block | apply Aw_skip | apply Aw_exit | refine Aw_condt rfl ?_ | refine Aw_condf rfl ?_ | ((first | refine qr ?_ | refine qd (by kernel_rfl) (by kernel_rfl) ?_); simp only [go_sem, jE, reduceIte, jA, jM, jS, jL, jD, jB]) | refine dk (by kernel_rfl) ?_ | (refine qp (in_ac _ _ _) (by simp only [go_sem, jE, reduceIte, jA, jM, jS, jL, jD, jB]; first | done | rfl) rfl (by simp only [go_sem, Nat.reduceLT]) rfl rfl ?_; simp only [go_sem, jE, reduceIte, jA, jM, jS, jL, jD, jB]))
  exact Aw_ret (ret0 (.inl rfl) (by simp only [go_sem, jE, reduceIte, jA, jM, jS, jL, jD, jB]; rfl) (by rfl) rfl)
theorem keyOk_ac (s : ByteArray) (hs : smK s) : AC Tryz.prog 66 [sT s] noHp 0 ⟨.t (bT (keyOk s)), noHp, 0⟩ := by
  refine AC_of Tryz.func66 rfl Tryz.ntmps66 Tryz.results66 (by kernel_rfl) rfl ?_
  simp only [List.zipIdx, List.map, Nat.zero_add, Nat.reduceAdd]
  repeat (first | apply Aw_seq | apply Aw_block | apply Aw_skip | apply Aw_exit | refine Aw_condt rfl ?_ | refine Aw_condf rfl ?_ | ((first | refine qr ?_ | refine qd (by kernel_rfl) (by kernel_rfl) ?_); simp only [go_sem, jE, reduceIte, jA, jM, jS, jL, jD, jB]) | refine dk (by kernel_rfl) ?_)
  refine Aw.rw (rw0 (l' := [(6, .t (iT (0 : Nat))), (5, .t (iT s.size)), (0, .t (sT s))]) (n' := 0) (by repeat (first | exact trivial | refine ⟨rfl, rfl, ?_⟩))) ?_
  refine Aw_loop0 (ι := { i : Nat // i ≤ s.size ∧ ((s.data.toList.take i).all lettr = true) }) (fun q => [(6, .t (iT (q.1 : Nat))), (5, .t (iT s.size)), (0, .t (sT s))]) (fun q => s.size - q.1) ⟨0, Nat.zero_le _, rfl⟩ ?_
  rintro ⟨i, hi, hp⟩
  dsimp only
  by_cases hlt : i < s.size
  · have h1 : (i : Int) < (s.size : Int) := by omega
    have h2 := wrap_succ hlt hs
    have h3 := ixB_ok (hp := noHp) hlt
    by_cases c1 : ((s[i].toNat : Nat) : Int) < 97
    · repeat (first | apply Aw_seq | apply Aw_block | apply Aw_skip | apply Aw_exit | refine Aw_condt rfl ?_ | refine Aw_condf rfl ?_ | ((first | refine qr ?_ | refine qd (by kernel_rfl) (by kernel_rfl) ?_); simp only [go_sem, jE, reduceIte, jA, jM, jS, jL, jD, jB, h1, c1, h3]) | refine dk (by kernel_rfl) ?_)
      exact Aw_ret (ret0 (.inl rfl) (by simp only [go_sem, jE, reduceIte, jA, jM, jS, jL, jD, jB]; rfl) (by rw [key_bad hlt (lettr_f (by omega))]) rfl)
    · by_cases c2 : (100 : Int) < ((s[i].toNat : Nat) : Int)
      · repeat (first | apply Aw_seq | apply Aw_block | apply Aw_skip | apply Aw_exit | refine Aw_condt rfl ?_ | refine Aw_condf rfl ?_ | ((first | refine qr ?_ | refine qd (by kernel_rfl) (by kernel_rfl) ?_); simp only [go_sem, jE, reduceIte, jA, jM, jS, jL, jD, jB, h1, c1, c2, h2, h3]) | refine dk (by kernel_rfl) ?_)
        exact Aw_ret (ret0 (.inl rfl) (by simp only [go_sem, jE, reduceIte, jA, jM, jS, jL, jD, jB]; rfl) (by rw [key_bad hlt (lettr_f (by omega))]) rfl)
      · repeat (first | apply Aw_seq | apply Aw_block | apply Aw_skip | apply Aw_exit | refine Aw_condt rfl ?_ | refine Aw_condf rfl ?_ | ((first | refine qr ?_ | refine qd (by kernel_rfl) (by kernel_rfl) ?_); simp only [go_sem, jE, reduceIte, jA, jM, jS, jL, jD, jB, h1, c1, c2, h2, h3]) | refine dk (by kernel_rfl) ?_)
        exact ⟨⟨i + 1, by omega, all_succ hlt hp (lettr_t c1 c2)⟩, (by simp only []; omega), rw0 (by repeat (first | exact trivial | refine ⟨rfl, rfl, ?_⟩))⟩
  · have h1 : ¬ (i : Int) < (s.size : Int) := by omega
    have he : i = s.size := by omega
    subst he
    repeat (first | apply Aw_seq | apply Aw_block | apply Aw_skip | apply Aw_exit | refine Aw_condt rfl ?_ | refine Aw_condf rfl ?_ | ((first | refine qr ?_ | refine qd (by kernel_rfl) (by kernel_rfl) ?_); simp only [go_sem, jE, reduceIte, jA, jM, jS, jL, jD, jB, h1]) | refine dk (by kernel_rfl) ?_)
    exact Aw_ret (ret0 (.inl rfl) (by simp only [go_sem, jE, reduceIte, jA, jM, jS, jL, jD, jB]; rfl) (by rw [key_end hp]) rfl)
theorem skeyOk_ac (s : ByteArray) (hs : smK s) : AC Tryz.prog 59 [sT s] noHp 0 ⟨.t (bT (keyOk s)), noHp, 0⟩ := by
  refine AC_of Tryz.func59 rfl Tryz.ntmps59 Tryz.results59 (by kernel_rfl) rfl ?_
  simp only [List.zipIdx, List.map, Nat.zero_add, Nat.reduceAdd]
  repeat (first | apply Aw_seq | apply Aw_block | apply Aw_skip | apply Aw_exit | refine Aw_condt rfl ?_ | refine Aw_condf rfl ?_ | ((first | refine qr ?_ | refine qd (by kernel_rfl) (by kernel_rfl) ?_); simp only [go_sem, jE, reduceIte, jA, jM, jS, jL, jD, jB]) | refine dk (by kernel_rfl) ?_)
  refine Aw.rw (rw0 (l' := [(3, .t (iT (0 : Nat))), (0, .t (sT s))]) (n' := 0) (by repeat (first | exact trivial | refine ⟨rfl, rfl, ?_⟩))) ?_
  refine Aw_loop0 (ι := { i : Nat // i ≤ s.size ∧ ((s.data.toList.take i).all lettr = true) }) (fun q => [(3, .t (iT (q.1 : Nat))), (0, .t (sT s))]) (fun q => s.size - q.1) ⟨0, Nat.zero_le _, rfl⟩ ?_
  rintro ⟨i, hi, hp⟩
  dsimp only
  by_cases hlt : i < s.size
  · have h1 : (i : Int) < (s.size : Int) := by omega
    have h2 := wrap_succ hlt hs
    have h3 := ixB_ok (hp := noHp) hlt
    have h4 : IntKind.i64.wrap (s[i].toNat : Int) = (s[i].toNat : Int) := wrap_nat (by have := s[i].toNat_lt; omega)
    cases c1 : inB 97 (s[i].toNat : Int) 100 with
    | false =>
      repeat (first | apply Aw_seq | apply Aw_block | apply Aw_skip | apply Aw_exit | refine Aw_condt rfl ?_ | refine Aw_condf rfl ?_ | ((first | refine qr ?_ | refine qd (by kernel_rfl) (by kernel_rfl) ?_); simp only [go_sem, jE, reduceIte, jA, jM, jS, jL, jD, jB, h1, c1, h3, h4]) | refine dk (by kernel_rfl) ?_ | (refine qp (l6In_ac _ _ _) (by simp only [go_sem, jE, reduceIte, jA, jM, jS, jL, jD, jB, h1, c1, h3, h4]; first | done | rfl) rfl (by simp only [go_sem, Nat.reduceLT]) rfl rfl ?_; simp only [go_sem, jE, reduceIte, jA, jM, jS, jL, jD, jB, h1, c1, h3, h4]))
      exact Aw_ret (ret0 (.inl rfl) (by simp only [go_sem, jE, reduceIte, jA, jM, jS, jL, jD, jB]; rfl) (by rw [key_bad hlt (lettr_f (by unfold inB at c1; simp at c1; omega))]) rfl)
    | true =>
      repeat (first | apply Aw_seq | apply Aw_block | apply Aw_skip | apply Aw_exit | refine Aw_condt rfl ?_ | refine Aw_condf rfl ?_ | ((first | refine qr ?_ | refine qd (by kernel_rfl) (by kernel_rfl) ?_); simp only [go_sem, jE, reduceIte, jA, jM, jS, jL, jD, jB, h1, c1, h2, h3, h4]) | refine dk (by kernel_rfl) ?_ | (refine qp (l6In_ac _ _ _) (by simp only [go_sem, jE, reduceIte, jA, jM, jS, jL, jD, jB, h1, c1, h2, h3, h4]; first | done | rfl) rfl (by simp only [go_sem, Nat.reduceLT]) rfl rfl ?_; simp only [go_sem, jE, reduceIte, jA, jM, jS, jL, jD, jB, h1, c1, h2, h3, h4]))
      exact ⟨⟨i + 1, by omega, all_succ hlt hp (lettr_t (by unfold inB at c1; simp at c1; omega) (by unfold inB at c1; simp at c1; omega))⟩, (by simp only []; omega), rw0 (by repeat (first | exact trivial | refine ⟨rfl, rfl, ?_⟩))⟩
  · have h1 : ¬ (i : Int) < (s.size : Int) := by omega
    have he : i = s.size := by omega
    subst he
    repeat (first | apply Aw_seq | apply Aw_block | apply Aw_skip | apply Aw_exit | refine Aw_condt rfl ?_ | refine Aw_condf rfl ?_ | ((first | refine qr ?_ | refine qd (by kernel_rfl) (by kernel_rfl) ?_); simp only [go_sem, jE, reduceIte, jA, jM, jS, jL, jD, jB, h1]) | refine dk (by kernel_rfl) ?_)
    exact Aw_ret (ret0 (.inl rfl) (by simp only [go_sem, jE, reduceIte, jA, jM, jS, jL, jD, jB]; rfl) (by rw [key_end hp]) rfl)
theorem before_ac (a b : Ent) : AC Tryz.prog 125 [entT a, entT b] noHp 0 ⟨.t (bT (before a b)), noHp, 0⟩ := by
  refine AC_of Tryz.func125 rfl Tryz.ntmps125 Tryz.results125 (by kernel_rfl) rfl ?_
  simp only [List.zipIdx, List.map, Nat.zero_add, Nat.reduceAdd]
  cases h1 : klt a.key b.key
  · cases h2 : decide (a.key = b.key)
    · repeat (first | apply Aw_seq | apply Aw_block | apply Aw_skip | apply Aw_exit | refine Aw_condt rfl ?_ | refine Aw_condf rfl ?_ | ((first | refine qr ?_ | refine qd (by kernel_rfl) (by kernel_rfl) ?_); simp only [go_sem, jE, reduceIte, jA, jM, jS, jL, jD, jB, h1, h2]) | refine dk (by kernel_rfl) ?_)
      exact Aw_ret (ret0 (.inl rfl) (by simp only [go_sem, jE, reduceIte, jA, jM, jS, jL, jD, jB]; rfl) (by simp [before, h1, h2]) rfl)
    · repeat (first | apply Aw_seq | apply Aw_block | apply Aw_skip | apply Aw_exit | refine Aw_condt rfl ?_ | refine Aw_condf rfl ?_ | ((first | refine qr ?_ | refine qd (by kernel_rfl) (by kernel_rfl) ?_); simp only [go_sem, jE, reduceIte, jA, jM, jS, jL, jD, jB, h1, h2]) | refine dk (by kernel_rfl) ?_)
      exact Aw_ret (ret0 (.inl rfl) (by simp only [go_sem, jE, reduceIte, jA, jM, jS, jL, jD, jB]; rfl) (by simp [before, h1, h2]) rfl)
  · repeat (first | apply Aw_seq | apply Aw_block | apply Aw_skip | apply Aw_exit | refine Aw_condt rfl ?_ | refine Aw_condf rfl ?_ | ((first | refine qr ?_ | refine qd (by kernel_rfl) (by kernel_rfl) ?_); simp only [go_sem, jE, reduceIte, jA, jM, jS, jL, jD, jB, h1]) | refine dk (by kernel_rfl) ?_)
    exact Aw_ret (ret0 (.inl rfl) (by simp only [go_sem, jE, reduceIte, jA, jM, jS, jL, jD, jB]; rfl) (by simp [before, h1]) rfl)
theorem sbefore_ac (a b : Ent) : AC Tryz.prog 118 [entT a, entT b] noHp 0 ⟨.t (bT (before a b)), noHp, 0⟩ := by
  refine AC_of Tryz.func118 rfl Tryz.ntmps118 Tryz.results118 (by kernel_rfl) rfl ?_
  simp only [List.zipIdx, List.map, Nat.zero_add, Nat.reduceAdd]
  cases h1 : klt a.key b.key
  · cases h2 : decide (a.key = b.key)
    · repeat (first | apply Aw_seq | apply Aw_block | apply Aw_skip | apply Aw_exit | refine Aw_condt rfl ?_ | refine Aw_condf rfl ?_ | ((first | refine qr ?_ | refine qd (by kernel_rfl) (by kernel_rfl) ?_); simp only [go_sem, jE, reduceIte, jA, jM, jS, jL, jD, jB, h1, h2]) | refine dk (by kernel_rfl) ?_)
      exact Aw_ret (ret0 (.inl rfl) (by simp only [go_sem, jE, reduceIte, jA, jM, jS, jL, jD, jB]; rfl) (by simp [before, h1, h2]) rfl)
    · repeat (first | apply Aw_seq | apply Aw_block | apply Aw_skip | apply Aw_exit | refine Aw_condt rfl ?_ | refine Aw_condf rfl ?_ | ((first | refine qr ?_ | refine qd (by kernel_rfl) (by kernel_rfl) ?_); simp only [go_sem, jE, reduceIte, jA, jM, jS, jL, jD, jB, h1, h2]) | refine dk (by kernel_rfl) ?_)
      exact Aw_ret (ret0 (.inl rfl) (by simp only [go_sem, jE, reduceIte, jA, jM, jS, jL, jD, jB]; rfl) (by simp [before, h1, h2]) rfl)
  · repeat (first | apply Aw_seq | apply Aw_block | apply Aw_skip | apply Aw_exit | refine Aw_condt rfl ?_ | refine Aw_condf rfl ?_ | ((first | refine qr ?_ | refine qd (by kernel_rfl) (by kernel_rfl) ?_); simp only [go_sem, jE, reduceIte, jA, jM, jS, jL, jD, jB, h1]) | refine dk (by kernel_rfl) ?_)
    exact Aw_ret (ret0 (.inl rfl) (by simp only [go_sem, jE, reduceIte, jA, jM, jS, jL, jD, jB]; rfl) (by simp [before, h1]) rfl)
theorem entOk_ac (e : Ent) (he : smK e.key) : AC Tryz.prog 81 [entT e] noHp 0 ⟨.t (bT (entOk e)), noHp, 0⟩ := by
  refine AC_of Tryz.func81 rfl Tryz.ntmps81 Tryz.results81 (by kernel_rfl) rfl ?_
  simp only [List.zipIdx, List.map, Nat.zero_add, Nat.reduceAdd]
  cases h1 : keyOk e.key
  · repeat (first | apply Aw_seq | apply Aw_block | apply Aw_skip | apply Aw_exit | refine Aw_condt rfl ?_ | refine Aw_condf rfl ?_ | ((first | refine qr ?_ | refine qd (by kernel_rfl) (by kernel_rfl) ?_); simp only [go_sem, jE, reduceIte, jA, jM, jS, jL, jD, jB, h1]) | refine dk (by kernel_rfl) ?_ | (refine qp (keyOk_ac _ he) (by simp only [go_sem, jE, reduceIte, jA, jM, jS, jL, jD, jB, h1]; first | done | rfl) rfl (by simp only [go_sem, Nat.reduceLT]) rfl rfl ?_; simp only [go_sem, jE, reduceIte, jA, jM, jS, jL, jD, jB, h1]))
    exact Aw_ret (ret0 (.inl rfl) (by simp only [go_sem, jE, reduceIte, jA, jM, jS, jL, jD, jB]; rfl) (by simp [entOk, h1]) rfl)
  · cases h2 : inB 0 e.val 99
    · repeat (first | apply Aw_seq | apply Aw_block | apply Aw_skip | apply Aw_exit | refine Aw_condt rfl ?_ | refine Aw_condf rfl ?_ | ((first | refine qr ?_ | refine qd (by kernel_rfl) (by kernel_rfl) ?_); simp only [go_sem, jE, reduceIte, jA, jM, jS, jL, jD, jB, h1, h2]) | refine dk (by kernel_rfl) ?_ | (refine qp (keyOk_ac _ he) (by simp only [go_sem, jE, reduceIte, jA, jM, jS, jL, jD, jB, h1, h2]; first | done | rfl) rfl (by simp only [go_sem, Nat.reduceLT]) rfl rfl ?_; simp only [go_sem, jE, reduceIte, jA, jM, jS, jL, jD, jB, h1, h2]) | (refine qp (in_ac _ _ _) (by simp only [go_sem, jE, reduceIte, jA, jM, jS, jL, jD, jB, h1, h2]; first | done | rfl) rfl (by simp only [go_sem, Nat.reduceLT]) rfl rfl ?_; simp only [go_sem, jE, reduceIte, jA, jM, jS, jL, jD, jB, h1, h2]))
      exact Aw_ret (ret0 (.inl rfl) (by simp only [go_sem, jE, reduceIte, jA, jM, jS, jL, jD, jB]; rfl) (by simp [entOk, h1, h2]) rfl)
    · cases h3 : e.gone
      · repeat (first | apply Aw_seq | apply Aw_block | apply Aw_skip | apply Aw_exit | refine Aw_condt rfl ?_ | refine Aw_condf rfl ?_ | ((first | refine qr ?_ | refine qd (by kernel_rfl) (by kernel_rfl) ?_); simp only [go_sem, jE, reduceIte, jA, jM, jS, jL, jD, jB, h1, h2, h3]) | refine dk (by kernel_rfl) ?_ | (refine qp (keyOk_ac _ he) (by simp only [go_sem, jE, reduceIte, jA, jM, jS, jL, jD, jB, h1, h2, h3]; first | done | rfl) rfl (by simp only [go_sem, Nat.reduceLT]) rfl rfl ?_; simp only [go_sem, jE, reduceIte, jA, jM, jS, jL, jD, jB, h1, h2, h3]) | (refine qp (in_ac _ _ _) (by simp only [go_sem, jE, reduceIte, jA, jM, jS, jL, jD, jB, h1, h2, h3]; first | done | rfl) rfl (by simp only [go_sem, Nat.reduceLT]) rfl rfl ?_; simp only [go_sem, jE, reduceIte, jA, jM, jS, jL, jD, jB, h1, h2, h3]))
        exact Aw_ret (ret0 (.inl rfl) (by simp only [go_sem, jE, reduceIte, jA, jM, jS, jL, jD, jB]; rfl) (by simp [entOk, h1, h2, h3]) rfl)
      · cases h4 : decide (e.val = 0)
        · repeat (first | apply Aw_seq | apply Aw_block | apply Aw_skip | apply Aw_exit | refine Aw_condt rfl ?_ | refine Aw_condf rfl ?_ | ((first | refine qr ?_ | refine qd (by kernel_rfl) (by kernel_rfl) ?_); simp only [go_sem, jE, reduceIte, jA, jM, jS, jL, jD, jB, h1, h2, h3, h4]) | refine dk (by kernel_rfl) ?_ | (refine qp (keyOk_ac _ he) (by simp only [go_sem, jE, reduceIte, jA, jM, jS, jL, jD, jB, h1, h2, h3, h4]; first | done | rfl) rfl (by simp only [go_sem, Nat.reduceLT]) rfl rfl ?_; simp only [go_sem, jE, reduceIte, jA, jM, jS, jL, jD, jB, h1, h2, h3, h4]) | (refine qp (in_ac _ _ _) (by simp only [go_sem, jE, reduceIte, jA, jM, jS, jL, jD, jB, h1, h2, h3, h4]; first | done | rfl) rfl (by simp only [go_sem, Nat.reduceLT]) rfl rfl ?_; simp only [go_sem, jE, reduceIte, jA, jM, jS, jL, jD, jB, h1, h2, h3, h4]))
          exact Aw_ret (ret0 (.inl rfl) (by simp only [go_sem, jE, reduceIte, jA, jM, jS, jL, jD, jB]; rfl) (by simp [entOk, h1, h2, h3, h4]) rfl)
        · repeat (first | apply Aw_seq | apply Aw_block | apply Aw_skip | apply Aw_exit | refine Aw_condt rfl ?_ | refine Aw_condf rfl ?_ | ((first | refine qr ?_ | refine qd (by kernel_rfl) (by kernel_rfl) ?_); simp only [go_sem, jE, reduceIte, jA, jM, jS, jL, jD, jB, h1, h2, h3, h4]) | refine dk (by kernel_rfl) ?_ | (refine qp (keyOk_ac _ he) (by simp only [go_sem, jE, reduceIte, jA, jM, jS, jL, jD, jB, h1, h2, h3, h4]; first | done | rfl) rfl (by simp only [go_sem, Nat.reduceLT]) rfl rfl ?_; simp only [go_sem, jE, reduceIte, jA, jM, jS, jL, jD, jB, h1, h2, h3, h4]) | (refine qp (in_ac _ _ _) (by simp only [go_sem, jE, reduceIte, jA, jM, jS, jL, jD, jB, h1, h2, h3, h4]; first | done | rfl) rfl (by simp only [go_sem, Nat.reduceLT]) rfl rfl ?_; simp only [go_sem, jE, reduceIte, jA, jM, jS, jL, jD, jB, h1, h2, h3, h4]))
          exact Aw_ret (ret0 (.inl rfl) (by simp only [go_sem, jE, reduceIte, jA, jM, jS, jL, jD, jB]; rfl) (by simp [entOk, h1, h2, h3, h4]) rfl)
theorem sentOk_ac (e : Ent) (he : smK e.key) : AC Tryz.prog 76 [entT e] noHp 0 ⟨.t (bT (entOk e)), noHp, 0⟩ := by
  refine AC_of Tryz.func76 rfl Tryz.ntmps76 Tryz.results76 (by kernel_rfl) rfl ?_
  simp only [List.zipIdx, List.map, Nat.zero_add, Nat.reduceAdd]
  cases h1 : keyOk e.key
  · repeat (first | apply Aw_seq | apply Aw_block | apply Aw_skip | apply Aw_exit | refine Aw_condt rfl ?_ | refine Aw_condf rfl ?_ | ((first | refine qr ?_ | refine qd (by kernel_rfl) (by kernel_rfl) ?_); simp only [go_sem, jE, reduceIte, jA, jM, jS, jL, jD, jB, h1]) | refine dk (by kernel_rfl) ?_ | (refine qp (skeyOk_ac _ he) (by simp only [go_sem, jE, reduceIte, jA, jM, jS, jL, jD, jB, h1]; first | done | rfl) rfl (by simp only [go_sem, Nat.reduceLT]) rfl rfl ?_; simp only [go_sem, jE, reduceIte, jA, jM, jS, jL, jD, jB, h1]))
    exact Aw_ret (ret0 (.inl rfl) (by simp only [go_sem, jE, reduceIte, jA, jM, jS, jL, jD, jB]; rfl) (by simp [entOk, h1]) rfl)
  · cases h2 : inB 0 e.val 99
    · repeat (first | apply Aw_seq | apply Aw_block | apply Aw_skip | apply Aw_exit | refine Aw_condt rfl ?_ | refine Aw_condf rfl ?_ | ((first | refine qr ?_ | refine qd (by kernel_rfl) (by kernel_rfl) ?_); simp only [go_sem, jE, reduceIte, jA, jM, jS, jL, jD, jB, h1, h2]) | refine dk (by kernel_rfl) ?_ | (refine qp (skeyOk_ac _ he) (by simp only [go_sem, jE, reduceIte, jA, jM, jS, jL, jD, jB, h1, h2]; first | done | rfl) rfl (by simp only [go_sem, Nat.reduceLT]) rfl rfl ?_; simp only [go_sem, jE, reduceIte, jA, jM, jS, jL, jD, jB, h1, h2]) | (refine qp (l6In_ac _ _ _) (by simp only [go_sem, jE, reduceIte, jA, jM, jS, jL, jD, jB, h1, h2]; first | done | rfl) rfl (by simp only [go_sem, Nat.reduceLT]) rfl rfl ?_; simp only [go_sem, jE, reduceIte, jA, jM, jS, jL, jD, jB, h1, h2]))
      exact Aw_ret (ret0 (.inl rfl) (by simp only [go_sem, jE, reduceIte, jA, jM, jS, jL, jD, jB]; rfl) (by simp [entOk, h1, h2]) rfl)
    · cases h3 : e.gone
      · repeat (first | apply Aw_seq | apply Aw_block | apply Aw_skip | apply Aw_exit | refine Aw_condt rfl ?_ | refine Aw_condf rfl ?_ | ((first | refine qr ?_ | refine qd (by kernel_rfl) (by kernel_rfl) ?_); simp only [go_sem, jE, reduceIte, jA, jM, jS, jL, jD, jB, h1, h2, h3]) | refine dk (by kernel_rfl) ?_ | (refine qp (skeyOk_ac _ he) (by simp only [go_sem, jE, reduceIte, jA, jM, jS, jL, jD, jB, h1, h2, h3]; first | done | rfl) rfl (by simp only [go_sem, Nat.reduceLT]) rfl rfl ?_; simp only [go_sem, jE, reduceIte, jA, jM, jS, jL, jD, jB, h1, h2, h3]) | (refine qp (l6In_ac _ _ _) (by simp only [go_sem, jE, reduceIte, jA, jM, jS, jL, jD, jB, h1, h2, h3]; first | done | rfl) rfl (by simp only [go_sem, Nat.reduceLT]) rfl rfl ?_; simp only [go_sem, jE, reduceIte, jA, jM, jS, jL, jD, jB, h1, h2, h3]))
        exact Aw_ret (ret0 (.inl rfl) (by simp only [go_sem, jE, reduceIte, jA, jM, jS, jL, jD, jB]; rfl) (by simp [entOk, h1, h2, h3]) rfl)
      · cases h4 : decide (e.val = 0)
        · repeat (first | apply Aw_seq | apply Aw_block | apply Aw_skip | apply Aw_exit | refine Aw_condt rfl ?_ | refine Aw_condf rfl ?_ | ((first | refine qr ?_ | refine qd (by kernel_rfl) (by kernel_rfl) ?_); simp only [go_sem, jE, reduceIte, jA, jM, jS, jL, jD, jB, h1, h2, h3, h4]) | refine dk (by kernel_rfl) ?_ | (refine qp (skeyOk_ac _ he) (by simp only [go_sem, jE, reduceIte, jA, jM, jS, jL, jD, jB, h1, h2, h3, h4]; first | done | rfl) rfl (by simp only [go_sem, Nat.reduceLT]) rfl rfl ?_; simp only [go_sem, jE, reduceIte, jA, jM, jS, jL, jD, jB, h1, h2, h3, h4]) | (refine qp (l6In_ac _ _ _) (by simp only [go_sem, jE, reduceIte, jA, jM, jS, jL, jD, jB, h1, h2, h3, h4]; first | done | rfl) rfl (by simp only [go_sem, Nat.reduceLT]) rfl rfl ?_; simp only [go_sem, jE, reduceIte, jA, jM, jS, jL, jD, jB, h1, h2, h3, h4]))
          exact Aw_ret (ret0 (.inl rfl) (by simp only [go_sem, jE, reduceIte, jA, jM, jS, jL, jD, jB]; rfl) (by simp [entOk, h1, h2, h3, h4]) rfl)
        · repeat (first | apply Aw_seq | apply Aw_block | apply Aw_skip | apply Aw_exit | refine Aw_condt rfl ?_ | refine Aw_condf rfl ?_ | ((first | refine qr ?_ | refine qd (by kernel_rfl) (by kernel_rfl) ?_); simp only [go_sem, jE, reduceIte, jA, jM, jS, jL, jD, jB, h1, h2, h3, h4]) | refine dk (by kernel_rfl) ?_ | (refine qp (skeyOk_ac _ he) (by simp only [go_sem, jE, reduceIte, jA, jM, jS, jL, jD, jB, h1, h2, h3, h4]; first | done | rfl) rfl (by simp only [go_sem, Nat.reduceLT]) rfl rfl ?_; simp only [go_sem, jE, reduceIte, jA, jM, jS, jL, jD, jB, h1, h2, h3, h4]) | (refine qp (l6In_ac _ _ _) (by simp only [go_sem, jE, reduceIte, jA, jM, jS, jL, jD, jB, h1, h2, h3, h4]; first | done | rfl) rfl (by simp only [go_sem, Nat.reduceLT]) rfl rfl ?_; simp only [go_sem, jE, reduceIte, jA, jM, jS, jL, jD, jB, h1, h2, h3, h4]))
          exact Aw_ret (ret0 (.inl rfl) (by simp only [go_sem, jE, reduceIte, jA, jM, jS, jL, jD, jB]; rfl) (by simp [entOk, h1, h2, h3, h4]) rfl)
theorem runOk_ac (r : List Ent) (hs : SmR r) : AC Tryz.prog 103 [runT r] noHp 0 ⟨.t (bT (runOk r)), noHp, 0⟩ := by
  refine AC_of Tryz.func103 rfl Tryz.ntmps103 Tryz.results103 (by kernel_rfl) rfl ?_
  simp only [List.zipIdx, List.map, Nat.zero_add, Nat.reduceAdd]
  repeat (first | apply Aw_seq | apply Aw_block | apply Aw_skip | apply Aw_exit | refine Aw_condt rfl ?_ | refine Aw_condf rfl ?_ | ((first | refine qr ?_ | refine qd (by kernel_rfl) (by kernel_rfl) ?_); simp only [go_sem, jE, reduceIte, jA, jM, jS, jL, jD, jB]) | refine dk (by kernel_rfl) ?_)
  refine Aw.rw (rw0 (l' := [(7, .t (iT (0 : Nat))), (6, .t (iT r.length)), (5, .t (runT r)), (0, .t (runT r))]) (n' := 0) (by repeat (first | exact trivial | refine ⟨rfl, rfl, ?_⟩))) ?_
  refine Aw_loop0 (ι := { i : Nat // i ≤ r.length ∧ (∀ j, j < i → okAt r j = true) }) (fun q => [(7, .t (iT (q.1 : Nat))), (6, .t (iT r.length)), (5, .t (runT r)), (0, .t (runT r))]) (fun q => r.length - q.1) ⟨0, Nat.zero_le _, fun j hj => absurd hj (by omega)⟩ ?_
  rintro ⟨i, hi, hp⟩
  dsimp only
  by_cases hlt : i < r.length
  · have h1 : (i : Int) < (r.length : Int) := by omega
    have h2 := wrap_succ hlt hs.len
    obtain ⟨e, hx⟩ : ∃ e, r[i]? = some e := ⟨_, List.getElem?_eq_getElem hlt⟩
    have he := hs.key e (List.mem_of_getElem? hx)
    cases c1 : entOk e
    · repeat (first | apply Aw_seq | apply Aw_block | apply Aw_skip | apply Aw_exit | refine Aw_condt rfl ?_ | refine Aw_condf rfl ?_ | ((first | refine qr ?_ | refine qd (by kernel_rfl) (by kernel_rfl) ?_); simp only [go_sem, jE, reduceIte, jA, jM, jS, jL, jD, jB, h1, hx, c1]) | refine dk (by kernel_rfl) ?_ | (refine qp (entOk_ac _ he) (by simp only [go_sem, jE, reduceIte, jA, jM, jS, jL, jD, jB, h1, hx, c1]; first | done | rfl) rfl (by simp only [go_sem, Nat.reduceLT]) rfl rfl ?_; simp only [go_sem, jE, reduceIte, jA, jM, jS, jL, jD, jB, h1, hx, c1]))
      exact Aw_ret (ret0 (.inl rfl) (by simp only [go_sem, jE, reduceIte, jA, jM, jS, jL, jD, jB]; rfl) (by rw [runOk_bad hlt (by simp [okAt, hx, c1])]) rfl)
    · rcases i with _ | j
      · have h5 : decide ((0 : Int) < ((0 : Nat) : Int)) = false := rfl
        repeat (first | apply Aw_seq | apply Aw_block | apply Aw_skip | apply Aw_exit | refine Aw_condt rfl ?_ | refine Aw_condf rfl ?_ | ((first | refine qr ?_ | refine qd (by kernel_rfl) (by kernel_rfl) ?_); simp only [go_sem, jE, reduceIte, jA, jM, jS, jL, jD, jB, h1, hx, c1, h2, h5]) | refine dk (by kernel_rfl) ?_ | (refine qp (entOk_ac _ he) (by simp only [go_sem, jE, reduceIte, jA, jM, jS, jL, jD, jB, h1, hx, c1, h2, h5]; first | done | rfl) rfl (by simp only [go_sem, Nat.reduceLT]) rfl rfl ?_; simp only [go_sem, jE, reduceIte, jA, jM, jS, jL, jD, jB, h1, hx, c1, h2, h5]))
        exact ⟨⟨0 + 1, by omega, upto_succ hp (by simp [okAt, hx, c1])⟩, (by simp only []; omega), rw0 (by repeat (first | exact trivial | refine ⟨rfl, rfl, ?_⟩))⟩
      · have h5 : decide ((0 : Int) < ((j + 1 : Nat) : Int)) = true := decide_eq_true (by omega)
        have h6 := wrap_pred (i := j) (by omega) hs.len
        obtain ⟨p, hy⟩ : ∃ e, r[j]? = some e := ⟨_, List.getElem?_eq_getElem (by omega)⟩
        cases c2 : before p e
        · repeat (first | apply Aw_seq | apply Aw_block | apply Aw_skip | apply Aw_exit | refine Aw_condt rfl ?_ | refine Aw_condf rfl ?_ | ((first | refine qr ?_ | refine qd (by kernel_rfl) (by kernel_rfl) ?_); simp only [go_sem, jE, reduceIte, jA, jM, jS, jL, jD, jB, h1, hx, c1, h2, h5, h6, hy, c2]) | refine dk (by kernel_rfl) ?_ | (refine qp (entOk_ac _ he) (by simp only [go_sem, jE, reduceIte, jA, jM, jS, jL, jD, jB, h1, hx, c1, h2, h5, h6, hy, c2]; first | done | rfl) rfl (by simp only [go_sem, Nat.reduceLT]) rfl rfl ?_; simp only [go_sem, jE, reduceIte, jA, jM, jS, jL, jD, jB, h1, hx, c1, h2, h5, h6, hy, c2]) | (refine qp (before_ac _ _) (by simp only [go_sem, jE, reduceIte, jA, jM, jS, jL, jD, jB, h1, hx, c1, h2, h5, h6, hy, c2]; first | done | rfl) rfl (by simp only [go_sem, Nat.reduceLT]) rfl rfl ?_; simp only [go_sem, jE, reduceIte, jA, jM, jS, jL, jD, jB, h1, hx, c1, h2, h5, h6, hy, c2]))
          exact Aw_ret (ret0 (.inl rfl) (by simp only [go_sem, jE, reduceIte, jA, jM, jS, jL, jD, jB]; rfl) (by rw [runOk_bad hlt (by simp [okAt, hx, hy, c1, c2])]) rfl)
        · repeat (first | apply Aw_seq | apply Aw_block | apply Aw_skip | apply Aw_exit | refine Aw_condt rfl ?_ | refine Aw_condf rfl ?_ | ((first | refine qr ?_ | refine qd (by kernel_rfl) (by kernel_rfl) ?_); simp only [go_sem, jE, reduceIte, jA, jM, jS, jL, jD, jB, h1, hx, c1, h2, h5, h6, hy, c2]) | refine dk (by kernel_rfl) ?_ | (refine qp (entOk_ac _ he) (by simp only [go_sem, jE, reduceIte, jA, jM, jS, jL, jD, jB, h1, hx, c1, h2, h5, h6, hy, c2]; first | done | rfl) rfl (by simp only [go_sem, Nat.reduceLT]) rfl rfl ?_; simp only [go_sem, jE, reduceIte, jA, jM, jS, jL, jD, jB, h1, hx, c1, h2, h5, h6, hy, c2]) | (refine qp (before_ac _ _) (by simp only [go_sem, jE, reduceIte, jA, jM, jS, jL, jD, jB, h1, hx, c1, h2, h5, h6, hy, c2]; first | done | rfl) rfl (by simp only [go_sem, Nat.reduceLT]) rfl rfl ?_; simp only [go_sem, jE, reduceIte, jA, jM, jS, jL, jD, jB, h1, hx, c1, h2, h5, h6, hy, c2]))
          exact ⟨⟨j + 1 + 1, by omega, upto_succ hp (by simp [okAt, hx, hy, c1, c2])⟩, (by simp only []; omega), rw0 (by repeat (first | exact trivial | refine ⟨rfl, rfl, ?_⟩))⟩
  · have h1 : ¬ (i : Int) < (r.length : Int) := by omega
    have he : i = r.length := by omega
    subst he
    repeat (first | apply Aw_seq | apply Aw_block | apply Aw_skip | apply Aw_exit | refine Aw_condt rfl ?_ | refine Aw_condf rfl ?_ | ((first | refine qr ?_ | refine qd (by kernel_rfl) (by kernel_rfl) ?_); simp only [go_sem, jE, reduceIte, jA, jM, jS, jL, jD, jB, h1]) | refine dk (by kernel_rfl) ?_)
    exact Aw_ret (ret0 (.inl rfl) (by simp only [go_sem, jE, reduceIte, jA, jM, jS, jL, jD, jB]; rfl) (by rw [runOk_end hp]) rfl)
theorem srunOk_ac (r : List Ent) (hs : SmR r) : AC Tryz.prog 87 [runT r] noHp 0 ⟨.t (bT (runOk r)), noHp, 0⟩ := by
  refine AC_of Tryz.func87 rfl Tryz.ntmps87 Tryz.results87 (by kernel_rfl) rfl ?_
  simp only [List.zipIdx, List.map, Nat.zero_add, Nat.reduceAdd]
  repeat (first | apply Aw_seq | apply Aw_block | apply Aw_skip | apply Aw_exit | refine Aw_condt rfl ?_ | refine Aw_condf rfl ?_ | ((first | refine qr ?_ | refine qd (by kernel_rfl) (by kernel_rfl) ?_); simp only [go_sem, jE, reduceIte, jA, jM, jS, jL, jD, jB]) | refine dk (by kernel_rfl) ?_)
  refine Aw.rw (rw0 (l' := [(3, .t (iT (0 : Nat))), (0, .t (runT r))]) (n' := 0) (by repeat (first | exact trivial | refine ⟨rfl, rfl, ?_⟩))) ?_
  refine Aw_loop0 (ι := { i : Nat // i ≤ r.length ∧ (∀ j, j < i → okAt r j = true) }) (fun q => [(3, .t (iT (q.1 : Nat))), (0, .t (runT r))]) (fun q => r.length - q.1) ⟨0, Nat.zero_le _, fun j hj => absurd hj (by omega)⟩ ?_
  rintro ⟨i, hi, hp⟩
  dsimp only
  by_cases hlt : i < r.length
  · have h1 : (i : Int) < (r.length : Int) := by omega
    have h2 := wrap_succ hlt hs.len
    obtain ⟨e, hx⟩ : ∃ e, r[i]? = some e := ⟨_, List.getElem?_eq_getElem hlt⟩
    have he := hs.key e (List.mem_of_getElem? hx)
    cases c1 : entOk e
    · repeat (first | apply Aw_seq | apply Aw_block | apply Aw_skip | apply Aw_exit | refine Aw_condt rfl ?_ | refine Aw_condf rfl ?_ | ((first | refine qr ?_ | refine qd (by kernel_rfl) (by kernel_rfl) ?_); simp only [go_sem, jE, reduceIte, jA, jM, jS, jL, jD, jB, h1, hx, c1]) | refine dk (by kernel_rfl) ?_ | (refine qp (sentOk_ac _ he) (by simp only [go_sem, jE, reduceIte, jA, jM, jS, jL, jD, jB, h1, hx, c1]; first | done | rfl) rfl (by simp only [go_sem, Nat.reduceLT]) rfl rfl ?_; simp only [go_sem, jE, reduceIte, jA, jM, jS, jL, jD, jB, h1, hx, c1]))
      exact Aw_ret (ret0 (.inl rfl) (by simp only [go_sem, jE, reduceIte, jA, jM, jS, jL, jD, jB]; rfl) (by rw [runOk_bad hlt (by simp [okAt, hx, c1])]) rfl)
    · rcases i with _ | j
      · have h5 : decide ((0 : Int) < ((0 : Nat) : Int)) = false := rfl
        repeat (first | apply Aw_seq | apply Aw_block | apply Aw_skip | apply Aw_exit | refine Aw_condt rfl ?_ | refine Aw_condf rfl ?_ | ((first | refine qr ?_ | refine qd (by kernel_rfl) (by kernel_rfl) ?_); simp only [go_sem, jE, reduceIte, jA, jM, jS, jL, jD, jB, h1, hx, c1, h2, h5]) | refine dk (by kernel_rfl) ?_ | (refine qp (sentOk_ac _ he) (by simp only [go_sem, jE, reduceIte, jA, jM, jS, jL, jD, jB, h1, hx, c1, h2, h5]; first | done | rfl) rfl (by simp only [go_sem, Nat.reduceLT]) rfl rfl ?_; simp only [go_sem, jE, reduceIte, jA, jM, jS, jL, jD, jB, h1, hx, c1, h2, h5]))
        exact ⟨⟨0 + 1, by omega, upto_succ hp (by simp [okAt, hx, c1])⟩, (by simp only []; omega), rw0 (by repeat (first | exact trivial | refine ⟨rfl, rfl, ?_⟩))⟩
      · have h5 : decide ((0 : Int) < ((j + 1 : Nat) : Int)) = true := decide_eq_true (by omega)
        have h6 := wrap_pred (i := j) (by omega) hs.len
        obtain ⟨p, hy⟩ : ∃ e, r[j]? = some e := ⟨_, List.getElem?_eq_getElem (by omega)⟩
        cases c2 : before p e
        · repeat (first | apply Aw_seq | apply Aw_block | apply Aw_skip | apply Aw_exit | refine Aw_condt rfl ?_ | refine Aw_condf rfl ?_ | ((first | refine qr ?_ | refine qd (by kernel_rfl) (by kernel_rfl) ?_); simp only [go_sem, jE, reduceIte, jA, jM, jS, jL, jD, jB, h1, hx, c1, h2, h5, h6, hy, c2]) | refine dk (by kernel_rfl) ?_ | (refine qp (sentOk_ac _ he) (by simp only [go_sem, jE, reduceIte, jA, jM, jS, jL, jD, jB, h1, hx, c1, h2, h5, h6, hy, c2]; first | done | rfl) rfl (by simp only [go_sem, Nat.reduceLT]) rfl rfl ?_; simp only [go_sem, jE, reduceIte, jA, jM, jS, jL, jD, jB, h1, hx, c1, h2, h5, h6, hy, c2]) | (refine qp (sbefore_ac _ _) (by simp only [go_sem, jE, reduceIte, jA, jM, jS, jL, jD, jB, h1, hx, c1, h2, h5, h6, hy, c2]; first | done | rfl) rfl (by simp only [go_sem, Nat.reduceLT]) rfl rfl ?_; simp only [go_sem, jE, reduceIte, jA, jM, jS, jL, jD, jB, h1, hx, c1, h2, h5, h6, hy, c2]))
          exact Aw_ret (ret0 (.inl rfl) (by simp only [go_sem, jE, reduceIte, jA, jM, jS, jL, jD, jB]; rfl) (by rw [runOk_bad hlt (by simp [okAt, hx, hy, c1, c2])]) rfl)
        · repeat (first | apply Aw_seq | apply Aw_block | apply Aw_skip | apply Aw_exit | refine Aw_condt rfl ?_ | refine Aw_condf rfl ?_ | ((first | refine qr ?_ | refine qd (by kernel_rfl) (by kernel_rfl) ?_); simp only [go_sem, jE, reduceIte, jA, jM, jS, jL, jD, jB, h1, hx, c1, h2, h5, h6, hy, c2]) | refine dk (by kernel_rfl) ?_ | (refine qp (sentOk_ac _ he) (by simp only [go_sem, jE, reduceIte, jA, jM, jS, jL, jD, jB, h1, hx, c1, h2, h5, h6, hy, c2]; first | done | rfl) rfl (by simp only [go_sem, Nat.reduceLT]) rfl rfl ?_; simp only [go_sem, jE, reduceIte, jA, jM, jS, jL, jD, jB, h1, hx, c1, h2, h5, h6, hy, c2]) | (refine qp (sbefore_ac _ _) (by simp only [go_sem, jE, reduceIte, jA, jM, jS, jL, jD, jB, h1, hx, c1, h2, h5, h6, hy, c2]; first | done | rfl) rfl (by simp only [go_sem, Nat.reduceLT]) rfl rfl ?_; simp only [go_sem, jE, reduceIte, jA, jM, jS, jL, jD, jB, h1, hx, c1, h2, h5, h6, hy, c2]))
          exact ⟨⟨j + 1 + 1, by omega, upto_succ hp (by simp [okAt, hx, hy, c1, c2])⟩, (by simp only []; omega), rw0 (by repeat (first | exact trivial | refine ⟨rfl, rfl, ?_⟩))⟩
  · have h1 : ¬ (i : Int) < (r.length : Int) := by omega
    have he : i = r.length := by omega
    subst he
    repeat (first | apply Aw_seq | apply Aw_block | apply Aw_skip | apply Aw_exit | refine Aw_condt rfl ?_ | refine Aw_condf rfl ?_ | ((first | refine qr ?_ | refine qd (by kernel_rfl) (by kernel_rfl) ?_); simp only [go_sem, jE, reduceIte, jA, jM, jS, jL, jD, jB, h1]) | refine dk (by kernel_rfl) ?_)
    exact Aw_ret (ret0 (.inl rfl) (by simp only [go_sem, jE, reduceIte, jA, jM, jS, jL, jD, jB]; rfl) (by rw [runOk_end hp]) rfl)
abbrev resE (o : Option Ent) : AV := .tup [entT (o.getD zEnt), bT o.isSome]
theorem at_ac (r : List Ent) (k : ByteArray) (t : Int) (hs : SmR r) : AC Tryz.prog 115 [runT r, sT k, iT t] noHp 0 ⟨resE (atM r k t), noHp, 0⟩ := by
  refine AC_of Tryz.func115 rfl Tryz.ntmps115 Tryz.results115 (by kernel_rfl) rfl ?_
  simp only [List.zipIdx, List.map, Nat.zero_add, Nat.reduceAdd]
  repeat (first | apply Aw_seq | apply Aw_block | apply Aw_skip | apply Aw_exit | refine Aw_condt rfl ?_ | refine Aw_condf rfl ?_ | ((first | refine qr ?_ | refine qd (by kernel_rfl) (by kernel_rfl) ?_); simp only [go_sem, jE, reduceIte, jA, jM, jS, jL, jD, jB]) | refine dk (by kernel_rfl) ?_)
  refine Aw.rw (rw1g (m := 0) (l' := [(12, .t (iT (0 : Nat))), (11, .t (iT r.length)), (10, .t (runT r)), (0, .t (runT r)), (1, .t (sT k)), (2, .t (iT t)), (6, .t (.c (.ph 0 0 0)))]) (o := ⟨56, 4, false, [(entD zEnt).map .d]⟩) (by repeat (first | exact trivial | refine ⟨rfl, rfl, ?_⟩)) rfl rfl) ?_
  refine Aw_loop1 (ι := { i : Nat // i ≤ r.length ∧ (∀ j, j < i → ∀ y, r[j]? = some y → hit k t y = false) }) (fun q => [(12, .t (iT (q.1 : Nat))), (11, .t (iT r.length)), (10, .t (runT r)), (0, .t (runT r)), (1, .t (sT k)), (2, .t (iT t)), (6, .t (.c (.ph 0 0 0)))]) (fun q => ⟨56, 4, false, [(entD zEnt).map .d]⟩) (fun q => r.length - q.1) ⟨0, Nat.zero_le _, fun j hj => absurd hj (by omega)⟩ ?_
  rintro ⟨i, hi, hp⟩
  dsimp only
  by_cases hlt : i < r.length
  · have h1 : (i : Int) < (r.length : Int) := by omega
    have h2 := wrap_succ hlt hs.len
    obtain ⟨e, hx⟩ : ∃ e, r[i]? = some e := ⟨_, List.getElem?_eq_getElem hlt⟩
    cases c1 : decide (e.key = k)
    · repeat (first | apply Aw_seq | apply Aw_block | apply Aw_skip | apply Aw_exit | refine Aw_condt rfl ?_ | refine Aw_condf rfl ?_ | ((first | refine qr ?_ | refine qd (by kernel_rfl) (by kernel_rfl) ?_); simp only [go_sem, jE, reduceIte, jA, jM, jS, jL, jD, jB, h1, h2, hx, c1]) | refine dk (by kernel_rfl) ?_)
      refine ⟨⟨i + 1, by omega, no_succ hp hx (by simp [hit, c1])⟩, [_], (by simp only []; omega), rw1g (by repeat (first | exact trivial | refine ⟨rfl, rfl, ?_⟩)) (by rfl) rfl⟩
    · cases c2 : decide (e.time ≤ t)
      · repeat (first | apply Aw_seq | apply Aw_block | apply Aw_skip | apply Aw_exit | refine Aw_condt rfl ?_ | refine Aw_condf rfl ?_ | ((first | refine qr ?_ | refine qd (by kernel_rfl) (by kernel_rfl) ?_); simp only [go_sem, jE, reduceIte, jA, jM, jS, jL, jD, jB, h1, h2, hx, c1, c2]) | refine dk (by kernel_rfl) ?_)
        refine ⟨⟨i + 1, by omega, no_succ hp hx (by simp [hit, c1, c2])⟩, [_], (by simp only []; omega), rw1g (by repeat (first | exact trivial | refine ⟨rfl, rfl, ?_⟩)) (by rfl) rfl⟩
      · repeat (first | apply Aw_seq | apply Aw_block | apply Aw_skip | apply Aw_exit | refine Aw_condt rfl ?_ | refine Aw_condf rfl ?_ | ((first | refine qr ?_ | refine qd (by kernel_rfl) (by kernel_rfl) ?_); simp only [go_sem, jE, reduceIte, jA, jM, jS, jL, jD, jB, h1, h2, hx, c1, c2]) | refine dk (by kernel_rfl) ?_)
        exact Aw_ret (ret0 (.inl rfl) (by simp only [go_sem, jE, reduceIte, jA, jM, jS, jL, jD, jB]; rfl) (by unfold atM; rw [find_hit hx hp (by simp [hit, c1, c2])]; rfl) rfl)
  · have h1 : ¬ (i : Int) < (r.length : Int) := by omega
    have he : i = r.length := by omega
    subst he
    repeat (first | apply Aw_seq | apply Aw_block | apply Aw_skip | apply Aw_exit | refine Aw_condt rfl ?_ | refine Aw_condf rfl ?_ | ((first | refine qr ?_ | refine qd (by kernel_rfl) (by kernel_rfl) ?_); simp only [go_sem, jE, reduceIte, jA, jM, jS, jL, jD, jB, h1]) | refine dk (by kernel_rfl) ?_)
    exact Aw_ret (ret0 (.inl rfl) (by simp only [go_sem, jE, reduceIte, jA, jM, jS, jL, jD, jB]; rfl) (by unfold atM; rw [find_none hp]; rfl) rfl)
theorem sat_ac (r : List Ent) (k : ByteArray) (t : Int) (hs : SmR r) : AC Tryz.prog 101 [runT r, sT k, iT t] noHp 0 ⟨resE (atM r k t), noHp, 0⟩ := by
  refine AC_of Tryz.func101 rfl Tryz.ntmps101 Tryz.results101 (by kernel_rfl) rfl ?_
  simp only [List.zipIdx, List.map, Nat.zero_add, Nat.reduceAdd]
  repeat (first | apply Aw_seq | apply Aw_block | apply Aw_skip | apply Aw_exit | refine Aw_condt rfl ?_ | refine Aw_condf rfl ?_ | ((first | refine qr ?_ | refine qd (by kernel_rfl) (by kernel_rfl) ?_); simp only [go_sem, jE, reduceIte, jA, jM, jS, jL, jD, jB]) | refine dk (by kernel_rfl) ?_)
  refine Aw.rw (rw1g (m := 0) (l' := [(8, .t (iT (0 : Nat))), (0, .t (runT r)), (1, .t (sT k)), (2, .t (iT t)), (6, .t (.c (.ph 0 0 0)))]) (o := ⟨56, 4, false, [(entD zEnt).map .d]⟩) (by repeat (first | exact trivial | refine ⟨rfl, rfl, ?_⟩)) rfl rfl) ?_
  refine Aw_loop1 (ι := { i : Nat // i ≤ r.length ∧ (∀ j, j < i → ∀ y, r[j]? = some y → hit k t y = false) }) (fun q => [(8, .t (iT (q.1 : Nat))), (0, .t (runT r)), (1, .t (sT k)), (2, .t (iT t)), (6, .t (.c (.ph 0 0 0)))]) (fun q => ⟨56, 4, false, [(entD zEnt).map .d]⟩) (fun q => r.length - q.1) ⟨0, Nat.zero_le _, fun j hj => absurd hj (by omega)⟩ ?_
  rintro ⟨i, hi, hp⟩
  dsimp only
  by_cases hlt : i < r.length
  · have h1 : (i : Int) < (r.length : Int) := by omega
    have h2 := wrap_succ hlt hs.len
    obtain ⟨e, hx⟩ : ∃ e, r[i]? = some e := ⟨_, List.getElem?_eq_getElem hlt⟩
    cases c1 : decide (e.key = k)
    · repeat (first | apply Aw_seq | apply Aw_block | apply Aw_skip | apply Aw_exit | refine Aw_condt rfl ?_ | refine Aw_condf rfl ?_ | ((first | refine qr ?_ | refine qd (by kernel_rfl) (by kernel_rfl) ?_); simp only [go_sem, jE, reduceIte, jA, jM, jS, jL, jD, jB, h1, h2, hx, c1]) | refine dk (by kernel_rfl) ?_)
      refine ⟨⟨i + 1, by omega, no_succ hp hx (by simp [hit, c1])⟩, [_], (by simp only []; omega), rw1g (by repeat (first | exact trivial | refine ⟨rfl, rfl, ?_⟩)) (by rfl) rfl⟩
    · cases c2 : decide (e.time ≤ t)
      · repeat (first | apply Aw_seq | apply Aw_block | apply Aw_skip | apply Aw_exit | refine Aw_condt rfl ?_ | refine Aw_condf rfl ?_ | ((first | refine qr ?_ | refine qd (by kernel_rfl) (by kernel_rfl) ?_); simp only [go_sem, jE, reduceIte, jA, jM, jS, jL, jD, jB, h1, h2, hx, c1, c2]) | refine dk (by kernel_rfl) ?_)
        refine ⟨⟨i + 1, by omega, no_succ hp hx (by simp [hit, c1, c2])⟩, [_], (by simp only []; omega), rw1g (by repeat (first | exact trivial | refine ⟨rfl, rfl, ?_⟩)) (by rfl) rfl⟩
      · repeat (first | apply Aw_seq | apply Aw_block | apply Aw_skip | apply Aw_exit | refine Aw_condt rfl ?_ | refine Aw_condf rfl ?_ | ((first | refine qr ?_ | refine qd (by kernel_rfl) (by kernel_rfl) ?_); simp only [go_sem, jE, reduceIte, jA, jM, jS, jL, jD, jB, h1, h2, hx, c1, c2]) | refine dk (by kernel_rfl) ?_)
        exact Aw_ret (ret0 (.inl rfl) (by simp only [go_sem, jE, reduceIte, jA, jM, jS, jL, jD, jB]; rfl) (by unfold atM; rw [find_hit hx hp (by simp [hit, c1, c2])]; rfl) rfl)
  · have h1 : ¬ (i : Int) < (r.length : Int) := by omega
    have he : i = r.length := by omega
    subst he
    repeat (first | apply Aw_seq | apply Aw_block | apply Aw_skip | apply Aw_exit | refine Aw_condt rfl ?_ | refine Aw_condf rfl ?_ | ((first | refine qr ?_ | refine qd (by kernel_rfl) (by kernel_rfl) ?_); simp only [go_sem, jE, reduceIte, jA, jM, jS, jL, jD, jB, h1]) | refine dk (by kernel_rfl) ?_)
    exact Aw_ret (ret0 (.inl rfl) (by simp only [go_sem, jE, reduceIte, jA, jM, jS, jL, jD, jB]; rfl) (by unfold atM; rw [find_none hp]; rfl) rfl)
def kRow (ks : List ByteArray) : Obj := dRow 9 1 (ks.map strD)
@[go_sem] theorem r_kRow (ks : List ByteArray) : kRow ks = dRow 9 1 (ks.map strD) := rfl
theorem keyAt_len (r : List Ent) (j : Nat) : (keyAt r j).length ≤ 1 := by
  unfold keyAt
  repeat' split
  all_goals simp
theorem keysOf_ac (r : List Ent) (hs : SmR r) : AC Tryz.prog 68 [runT r] noHp 0 ⟨.t (.c (.h 0)), hp1 (kRow (keysM r)), 1⟩ := by
  refine AC_of Tryz.func68 rfl Tryz.ntmps68 Tryz.results68 (by kernel_rfl) rfl ?_
  simp only [List.zipIdx, List.map, Nat.zero_add, Nat.reduceAdd]
  repeat (first | apply Aw_seq | apply Aw_block | apply Aw_skip | apply Aw_exit | refine Aw_condt rfl ?_ | refine Aw_condf rfl ?_ | ((first | refine qr ?_ | refine qd (by kernel_rfl) (by kernel_rfl) ?_); simp only [go_sem, jE, reduceIte, jA, jM, jS, jL, jD, jB]) | refine dk (by kernel_rfl) ?_)
  refine Aw.own (t := 3) (e := 9) (j := 1) rfl (by decide) (by simp only [Nat.reduceAdd]; rfl) ?_
  refine Aw.rw (rw1 (m := _) (l' := [(8, .t (iT (0 : Nat))), (7, .t (iT r.length)), (6, .t (runT r)), (0, .t (runT r)), (3, .t (.c (.h 0)))]) (by repeat (first | exact trivial | refine ⟨rfl, rfl, ?_⟩)) (show _ = some (dRow 9 1 ((colI 0 (keyAt r)).map strD)) from rfl)) ?_
  refine Aw_loop1 (ι := { i : Nat // i ≤ r.length ∧ (True) }) (fun q => [(8, .t (iT (q.1 : Nat))), (7, .t (iT r.length)), (6, .t (runT r)), (0, .t (runT r)), (3, .t (.c (.h 0)))]) (fun q => dRow 9 1 ((colI q.1 (keyAt r)).map strD)) (fun q => r.length - q.1) ⟨0, Nat.zero_le _, trivial⟩ ?_
  rintro ⟨i, hi, hp⟩
  dsimp only
  by_cases hlt : i < r.length
  · have h1 : (i : Int) < (r.length : Int) := by omega
    have h2 := wrap_succ hlt hs.len
    have hb : ((colI i (keyAt r)).length + 1) * 16 ≤ 140737488355328 := by have := colI_len (n := i) (keyAt_len r); have := hs.len; omega
    obtain ⟨e, hx⟩ : ∃ e, r[i]? = some e := ⟨_, List.getElem?_eq_getElem hlt⟩
    rcases i with _ | j
    · have h5 : decide (((0 : Nat) : Int) = 0) = true := rfl
      have hc : colI (0 + 1) (keyAt r) = colI 0 (keyAt r) ++ [e.key] := by rw [colI_succ]; simp [keyAt, hx]
      repeat (first | apply Aw_seq | apply Aw_block | apply Aw_skip | apply Aw_exit | refine Aw_condt rfl ?_ | refine Aw_condf rfl ?_ | ((first | refine qr ?_ | refine qd (by kernel_rfl) (by kernel_rfl) ?_); simp only [go_sem, jE, reduceIte, jA, jM, jS, jL, jD, jB, h1, h2, hx, h5, hb]) | refine dk (by kernel_rfl) ?_)
      refine ⟨⟨0 + 1, by omega, trivial⟩, [_], (by simp only []; omega), rw1 (by repeat (first | exact trivial | refine ⟨rfl, rfl, ?_⟩)) (by simp only [go_sem, jE, reduceIte, jA, jM, jS, jL, jD, jB]; rw [hc]; simp only [go_sem])⟩
    · have h5 : decide (((j + 1 : Nat) : Int) = 0) = false := decide_eq_false (by omega)
      have h6 := wrap_pred (i := j) (by omega) hs.len
      obtain ⟨p, hy⟩ : ∃ e, r[j]? = some e := ⟨_, List.getElem?_eq_getElem (by omega)⟩
      cases c2 : decide (p.key = e.key)
      · have hc : colI (j + 1 + 1) (keyAt r) = colI (j + 1) (keyAt r) ++ [e.key] := by rw [colI_succ]; simp at c2; simp [keyAt, hx, hy, c2]
        repeat (first | apply Aw_seq | apply Aw_block | apply Aw_skip | apply Aw_exit | refine Aw_condt rfl ?_ | refine Aw_condf rfl ?_ | ((first | refine qr ?_ | refine qd (by kernel_rfl) (by kernel_rfl) ?_); simp only [go_sem, jE, reduceIte, jA, jM, jS, jL, jD, jB, h1, h2, hx, h5, hb, hy, h6, c2]) | refine dk (by kernel_rfl) ?_)
        refine ⟨⟨j + 1 + 1, by omega, trivial⟩, [_], (by simp only []; omega), rw1 (by repeat (first | exact trivial | refine ⟨rfl, rfl, ?_⟩)) (by simp only [go_sem, jE, reduceIte, jA, jM, jS, jL, jD, jB]; rw [hc]; simp only [go_sem])⟩
      · have hc : colI (j + 1 + 1) (keyAt r) = colI (j + 1) (keyAt r) := by rw [colI_succ]; simp at c2; simp [keyAt, hx, hy, c2]
        repeat (first | apply Aw_seq | apply Aw_block | apply Aw_skip | apply Aw_exit | refine Aw_condt rfl ?_ | refine Aw_condf rfl ?_ | ((first | refine qr ?_ | refine qd (by kernel_rfl) (by kernel_rfl) ?_); simp only [go_sem, jE, reduceIte, jA, jM, jS, jL, jD, jB, h1, h2, hx, h5, hb, hy, h6, c2]) | refine dk (by kernel_rfl) ?_)
        refine ⟨⟨j + 1 + 1, by omega, trivial⟩, [_], (by simp only []; omega), rw1 (by repeat (first | exact trivial | refine ⟨rfl, rfl, ?_⟩)) (by simp only [go_sem, jE, reduceIte, jA, jM, jS, jL, jD, jB]; rw [hc])⟩
  · have h1 : ¬ (i : Int) < (r.length : Int) := by omega
    have he : i = r.length := by omega
    subst he
    repeat (first | apply Aw_seq | apply Aw_block | apply Aw_skip | apply Aw_exit | refine Aw_condt rfl ?_ | refine Aw_condf rfl ?_ | ((first | refine qr ?_ | refine qd (by kernel_rfl) (by kernel_rfl) ?_); simp only [go_sem, jE, reduceIte, jA, jM, jS, jL, jD, jB, h1]) | refine dk (by kernel_rfl) ?_)
    exact Aw_ret (ret1 (.inl rfl) (by simp only [go_sem, jE, reduceIte, jA, jM, jS, jL, jD, jB]; rfl) rfl rfl (by rfl))
theorem skeysOf_ac (r : List Ent) (hs : SmR r) : AC Tryz.prog 61 [runT r] noHp 0 ⟨.t (.c (.h 0)), hp1 (kRow (keysM r)), 1⟩ := by
  refine AC_of Tryz.func61 rfl Tryz.ntmps61 Tryz.results61 (by kernel_rfl) rfl ?_
  simp only [List.zipIdx, List.map, Nat.zero_add, Nat.reduceAdd]
  repeat (first | apply Aw_seq | apply Aw_block | apply Aw_skip | apply Aw_exit | refine Aw_condt rfl ?_ | refine Aw_condf rfl ?_ | ((first | refine qr ?_ | refine qd (by kernel_rfl) (by kernel_rfl) ?_); simp only [go_sem, jE, reduceIte, jA, jM, jS, jL, jD, jB]) | refine dk (by kernel_rfl) ?_)
  refine Aw.rw (rw1 (m := _) (l' := [(4, .t (iT (0 : Nat))), (0, .t (runT r)), (3, .t (.c (.h 0)))]) (by repeat (first | exact trivial | refine ⟨rfl, rfl, ?_⟩)) (show _ = some (dRow 9 1 ((colI 0 (keyAt r)).map strD)) from rfl)) ?_
  refine Aw_loop1 (ι := { i : Nat // i ≤ r.length ∧ (True) }) (fun q => [(4, .t (iT (q.1 : Nat))), (0, .t (runT r)), (3, .t (.c (.h 0)))]) (fun q => dRow 9 1 ((colI q.1 (keyAt r)).map strD)) (fun q => r.length - q.1) ⟨0, Nat.zero_le _, trivial⟩ ?_
  rintro ⟨i, hi, hp⟩
  dsimp only
  by_cases hlt : i < r.length
  · have h1 : (i : Int) < (r.length : Int) := by omega
    have h2 := wrap_succ hlt hs.len
    have hb : ((colI i (keyAt r)).length + 1) * 16 ≤ 140737488355328 := by have := colI_len (n := i) (keyAt_len r); have := hs.len; omega
    obtain ⟨e, hx⟩ : ∃ e, r[i]? = some e := ⟨_, List.getElem?_eq_getElem hlt⟩
    rcases i with _ | j
    · have h5 : decide (((0 : Nat) : Int) = 0) = true := rfl
      have hc : colI (0 + 1) (keyAt r) = colI 0 (keyAt r) ++ [e.key] := by rw [colI_succ]; simp [keyAt, hx]
      repeat (first | apply Aw_seq | apply Aw_block | apply Aw_skip | apply Aw_exit | refine Aw_condt rfl ?_ | refine Aw_condf rfl ?_ | ((first | refine qr ?_ | refine qd (by kernel_rfl) (by kernel_rfl) ?_); simp only [go_sem, jE, reduceIte, jA, jM, jS, jL, jD, jB, h1, h2, hx, h5, hb]) | refine dk (by kernel_rfl) ?_)
      refine ⟨⟨0 + 1, by omega, trivial⟩, [_], (by simp only []; omega), rw1 (by repeat (first | exact trivial | refine ⟨rfl, rfl, ?_⟩)) (by simp only [go_sem, jE, reduceIte, jA, jM, jS, jL, jD, jB]; rw [hc]; simp only [go_sem])⟩
    · have h5 : decide (((j + 1 : Nat) : Int) = 0) = false := decide_eq_false (by omega)
      have h6 := wrap_pred (i := j) (by omega) hs.len
      obtain ⟨p, hy⟩ : ∃ e, r[j]? = some e := ⟨_, List.getElem?_eq_getElem (by omega)⟩
      cases c2 : decide (p.key = e.key)
      · have hc : colI (j + 1 + 1) (keyAt r) = colI (j + 1) (keyAt r) ++ [e.key] := by rw [colI_succ]; simp at c2; simp [keyAt, hx, hy, c2]
        repeat (first | apply Aw_seq | apply Aw_block | apply Aw_skip | apply Aw_exit | refine Aw_condt rfl ?_ | refine Aw_condf rfl ?_ | ((first | refine qr ?_ | refine qd (by kernel_rfl) (by kernel_rfl) ?_); simp only [go_sem, jE, reduceIte, jA, jM, jS, jL, jD, jB, h1, h2, hx, h5, hb, hy, h6, c2]) | refine dk (by kernel_rfl) ?_)
        refine ⟨⟨j + 1 + 1, by omega, trivial⟩, [_], (by simp only []; omega), rw1 (by repeat (first | exact trivial | refine ⟨rfl, rfl, ?_⟩)) (by simp only [go_sem, jE, reduceIte, jA, jM, jS, jL, jD, jB]; rw [hc]; simp only [go_sem])⟩
      · have hc : colI (j + 1 + 1) (keyAt r) = colI (j + 1) (keyAt r) := by rw [colI_succ]; simp at c2; simp [keyAt, hx, hy, c2]
        repeat (first | apply Aw_seq | apply Aw_block | apply Aw_skip | apply Aw_exit | refine Aw_condt rfl ?_ | refine Aw_condf rfl ?_ | ((first | refine qr ?_ | refine qd (by kernel_rfl) (by kernel_rfl) ?_); simp only [go_sem, jE, reduceIte, jA, jM, jS, jL, jD, jB, h1, h2, hx, h5, hb, hy, h6, c2]) | refine dk (by kernel_rfl) ?_)
        refine ⟨⟨j + 1 + 1, by omega, trivial⟩, [_], (by simp only []; omega), rw1 (by repeat (first | exact trivial | refine ⟨rfl, rfl, ?_⟩)) (by simp only [go_sem, jE, reduceIte, jA, jM, jS, jL, jD, jB]; rw [hc])⟩
  · have h1 : ¬ (i : Int) < (r.length : Int) := by omega
    have he : i = r.length := by omega
    subst he
    repeat (first | apply Aw_seq | apply Aw_block | apply Aw_skip | apply Aw_exit | refine Aw_condt rfl ?_ | refine Aw_condf rfl ?_ | ((first | refine qr ?_ | refine qd (by kernel_rfl) (by kernel_rfl) ?_); simp only [go_sem, jE, reduceIte, jA, jM, jS, jL, jD, jB, h1]) | refine dk (by kernel_rfl) ?_)
    exact Aw_ret (ret1 (.inl rfl) (by simp only [go_sem, jE, reduceIte, jA, jM, jS, jL, jD, jB]; rfl) rfl rfl (by rfl))
theorem runKeys_ac (r : List Ent) (hs : SmR r) : AC Tryz.prog 105 [runT r] noHp 0 ⟨.t (.c (.h 0)), hp1 (kRow (if runOk r = true then keysM r else [])), 1⟩ := by
  refine AC_of Tryz.func105 rfl Tryz.ntmps105 Tryz.results105 (by kernel_rfl) rfl ?_
  simp only [List.zipIdx, List.map, Nat.zero_add, Nat.reduceAdd]
  cases c : runOk r
  · repeat (first | apply Aw_seq | apply Aw_block | apply Aw_skip | apply Aw_exit | refine Aw_condt rfl ?_ | refine Aw_condf rfl ?_ | ((first | refine qr ?_ | refine qd (by kernel_rfl) (by kernel_rfl) ?_); simp only [go_sem, jE, reduceIte, jA, jM, jS, jL, jD, jB, c]) | refine dk (by kernel_rfl) ?_ | (refine qp (runOk_ac _ hs) (by simp only [go_sem, jE, reduceIte, jA, jM, jS, jL, jD, jB, c]; first | done | rfl) rfl (by simp only [go_sem, Nat.reduceLT]) rfl rfl ?_; simp only [go_sem, jE, reduceIte, jA, jM, jS, jL, jD, jB, c]))
    refine Aw.own (t := 2) (e := 9) (j := 1) rfl (by decide) (by simp only [Nat.reduceAdd]; rfl) ?_
    exact Aw_ret (ret1 (.inl rfl) (by simp only [go_sem, jE, reduceIte, jA, jM, jS, jL, jD, jB]; rfl) rfl rfl (by rfl))
  · repeat (first | apply Aw_seq | apply Aw_block | apply Aw_skip | apply Aw_exit | refine Aw_condt rfl ?_ | refine Aw_condf rfl ?_ | ((first | refine qr ?_ | refine qd (by kernel_rfl) (by kernel_rfl) ?_); simp only [go_sem, jE, reduceIte, jA, jM, jS, jL, jD, jB, c]) | refine dk (by kernel_rfl) ?_ | (refine qp (runOk_ac _ hs) (by simp only [go_sem, jE, reduceIte, jA, jM, jS, jL, jD, jB, c]; first | done | rfl) rfl (by simp only [go_sem, Nat.reduceLT]) rfl rfl ?_; simp only [go_sem, jE, reduceIte, jA, jM, jS, jL, jD, jB, c]) | (refine qx (call_new1 (fun m => .t (.c (.h m))) (fun _ => rfl) rfl rfl (keysOf_ac _ hs) rfl) (by simp only [go_sem, jE, reduceIte, jA, jM, jS, jL, jD, jB, c]; first | done | rfl) rfl (by simp only [go_sem, Nat.reduceLT]) ?_; simp only [go_sem, jE, reduceIte, jA, jM, jS, jL, jD, jB, c]))
    exact Aw_ret (ret1 (.inl rfl) (by simp only [go_sem, jE, reduceIte, jA, jM, jS, jL, jD, jB]; rfl) rfl rfl (by rfl))
open Go Go.Proofs Go.Shelf Go.RowKit
set_option maxHeartbeats 1000000 in
set_option maxRecDepth 100000 in
theorem check_used (b : Nat) (w : World) (h0 : w.cell? ⟨b, 0, none⟩ = some (.pointer (some ⟨b, 0, none⟩))) :
    Calls Tryz.prog 184 #[.pointer (some ⟨b, 0, none⟩)] w fun e w' => e = .returned (.tuple #[]) ∧ w' = w := by
  obtain ⟨j, hj, _⟩ : ∃ j, Tryz.prog.info? 164 = some j ∧ j.size = 2 := ⟨_, rfl, by kernel_rfl⟩
  go_enter Tryz.func184, Tryz.ntmps184
  go_wp2
  rw [Lib.run_neq_ptr_same w _ Tryz.underlying162 hj]
  go_wp2
  go_end0
  exact ⟨rfl, rfl⟩
set_option maxHeartbeats 1000000 in
set_option maxRecDepth 100000 in
theorem check_fresh (b : Nat) (w : World) (h0 : w.cell? ⟨b, 0, none⟩ = some (.pointer none)) (hsh : w.shape? b = some (164, 2)) (hfz : w.frozen? ⟨b, 0, none⟩ = false) :
    Calls Tryz.prog 184 #[.pointer (some ⟨b, 0, none⟩)] w fun e w' => e = .returned (.tuple #[]) ∧ w' = w.setCell ⟨b, 0, none⟩ (.pointer (some ⟨b, 0, none⟩)) := by
  obtain ⟨j, hj, hjs⟩ : ∃ j, Tryz.prog.info? 164 = some j ∧ j.size = 2 := ⟨_, rfl, by kernel_rfl⟩
  go_enter Tryz.func184, Tryz.ntmps184
  go_wp2
  rw [Lib.run_to_unsafe w ⟨b, 0, none⟩ Tryz.underlying162 Tryz.underlying199 hj (by rw [hjs]; decide) hsh (Nat.zero_lt_succ 1)]
  simp only [Result.andThen]
  rw [Oper.upon_value]
  go_wp2
  rw [run_callFunc_extern Tryz.func196 (by kernel_rfl) (by kernel_rfl) (by kernel_rfl) (e := Extern.AbiNoEscape.same) (by kernel_rfl)]
  rw [Lib.run_noEscape]
  simp only [Result.andThen]
  rw [Oper.upon_value]
  go_wp2
  rw [Lib.run_from_unsafe w ⟨b, 0, none⟩ Tryz.underlying199 Tryz.underlying162 hj hsh (by kernel_rfl)]
  simp only [Result.andThen]
  rw [Oper.upon_value]
  go_wp2
  go_end0
  exact ⟨rfl, rfl⟩
def Tryz.lString_ren : Go.Shelf.Ren := ⟨fun | 169 => 162 | n => n, fun | 70 => 162 | 9 => 9 | 0 => 0 | 72 => 164 | 37 => 123 | 127 => 190 | 3 => 3 | 5 => 5 | n => n, fun | n => n⟩
theorem Tryz.lString : Go.Proofs.Lays.n169 Tryz.prog Tryz.lString_ren := {
  mixed := by kernel_rfl
  f169 := Tryz.func162.trans (congrArg some (by kernel_rfl))
  t0 := Tryz.underlying0
  a0 := Tryz.isAgg0
  z0 := Tryz.sizeOf0
  v0 := Tryz.zeroValue0
  t3 := Tryz.underlying3
  a3 := Tryz.isAgg3
  z3 := Tryz.sizeOf3
  v3 := Tryz.zeroValue3
  t9 := Tryz.underlying9
  a9 := Tryz.isAgg9
  z9 := Tryz.sizeOf9
  v9 := Tryz.zeroValue9
  t37 := Tryz.underlying123
  a37 := Tryz.isAgg123
  z37 := Tryz.sizeOf123
  v37 := Tryz.zeroValue123
  t70 := Tryz.underlying162
  a70 := Tryz.isAgg162
  z70 := Tryz.sizeOf162
  v70 := Tryz.zeroValue162
  t72 := Tryz.underlying164
  a72 := Tryz.isAgg164
  z72 := Tryz.sizeOf164
  v72 := Tryz.zeroValue164
  t127 := Tryz.underlying190
  a127 := Tryz.isAgg190
  z127 := Tryz.sizeOf190
  v127 := Tryz.zeroValue190 }
theorem xExtra : Builder.Extra Tryz.prog Tryz.lString_ren where
  sizeBuilder := by kernel_rfl
  liesBuilder := by kernel_rfl
  t5 := Tryz.underlying5
  a5 := Tryz.isAgg5
  z5 := Tryz.sizeOf5
  v5 := Tryz.zeroValue5
  infoByte := by kernel_rfl
  cellsByte := by kernel_rfl
  sizeByte := by kernel_rfl
  neB5 := by decide
theorem good_write {c : Cx} {hp : Hp} {w' : World} (g : Good c hp) {n : Nat} {o o' : Obj} (h0 : hp n = some o) (hr : o.row = false) (hr' : o'.row = false) (h1 : w'.os = c.w.os) (h2 : w'.tape = c.w.tape) (h3 : w'.output = c.w.output) (h4 : c.w.heap.size ≤ w'.heap.size)
    (h5 : ∀ b, b < c.w.heap.size → b ≠ c.ρ n → w'.heap[b]? = c.w.heap[b]?) (ho : ∀ {c' : Cx}, Le c c' → c'.w = w' → c'.ρ n = c.ρ n → c'.kk n = c.kk n → ORep c' n o') : Good (c.at w') (upd hp n (some o')) ∧ Tr c hp (c.at w') (upd hp n (some o')) := by
  have hb0 : blk c n o = some (c.ρ n) := by simp [blk, hr]
  have hown : Owned c hp (c.ρ n) := ⟨n, o, h0, hb0⟩
  have le : Le c (c.at w') := ⟨fun b hb => ⟨hb, h5 b (g.lt b hb) fun e => g.own b (e ▸ hown) hb⟩, fun m hm => ⟨hm, rfl, rfl, rfl⟩⟩
  have hup : ∀ m q, upd hp n (some o') m = some q → ∃ q0, hp m = some q0 ∧ blk (c.at w') m q = blk c m q0 ∧ ((m = n ∧ q = o') ∨ (m ≠ n ∧ q = q0)) := by
    intro m q h
    by_cases e : m = n
    · subst e; rw [upd_same] at h; obtain rfl := Option.some.inj h
      exact ⟨o, h0, by rw [hb0]; simp [blk, hr', Cx.at], .inl ⟨rfl, rfl⟩⟩
    · rw [upd_ne _ _ e] at h; exact ⟨q, h, rfl, .inr ⟨e, rfl⟩⟩
  have hO : ∀ b, Owned (c.at w') (upd hp n (some o')) b → Owned c hp b := fun b hb => by
    obtain ⟨m, q, q1, q2⟩ := hb
    obtain ⟨q0, k1, k2, _⟩ := hup m q q1
    exact ⟨m, q0, k1, k2 ▸ q2⟩
  refine ⟨⟨fun m q h => ?_, fun m q h => ?_, fun b hb => g.own b (hO b hb), fun m o1 m' o2 b a1 a2 a3 a4 => ?_, fun b hb => Nat.lt_of_lt_of_le (g.lt b hb) h4⟩, ⟨h1, h2, h3, h4, fun b hb hn => h5 b hb fun e => hn (e ▸ hown), fun m hm => ⟨hm, rfl, rfl, rfl⟩, fun _ h => h, fun _ h => .inl h, fun b hb => .inl (hO b hb)⟩⟩
  · obtain ⟨q0, k1, _⟩ := hup m q h; exact g.dom m q0 k1
  · obtain ⟨q0, k1, k2, ⟨rfl, rfl⟩ | ⟨hne, rfl⟩⟩ := hup m q h
    · exact ho le rfl rfl rfl
    · exact (g.obj m _ k1).move le (g.dom m _ k1) fun b hb => h5 b (g.owned_lt ⟨m, _, k1, hb⟩) fun e => hne (g.inj m _ n o b k1 h0 hb (by rw [hb0, e]))
  · obtain ⟨q1, b1, b2, _⟩ := hup m o1 a1
    obtain ⟨q2, b3, b4, _⟩ := hup m' o2 a2
    exact g.inj m q1 m' q2 b b1 b3 (b2 ▸ a3) (b4 ▸ a4)
/-- A builder: its address (none, or its own), its bytes. -/
def bld (a b : CV) : Obj := ⟨164, 2, false, [[a, b]]⟩
theorem bld_cells {c : Cx} {m : Nat} {a b : CV} (h : ORep c m (bld a b)) : ∃ u v, c.w.heap[c.ρ m]? = some (.cells #[u, v] 164 (0, 0)) ∧ RepC c a u ∧ RepC c b v := by
  obtain ⟨h1, h2, xs, ⟨e1, e2, e3⟩, ⟨hr, _⟩ | ⟨_, hh, _⟩⟩ := h
  · cases hr
  · simp only [bld, List.length_cons, List.length_nil] at e1
    obtain ⟨u, hu, ru⟩ := e3 0 0 [a, b] a rfl rfl
    obtain ⟨v, hv, rv⟩ := e3 0 1 [a, b] b rfl rfl
    match xs, e1, hu, hv, hh with
    | [x, y], _, hu, hv, hh =>
      simp [bld] at hu hv hh
      subst hu; subst hv
      exact ⟨x, y, hh, ru, rv⟩
theorem bld_rep {c : Cx} {m : Nat} {a b : CV} {u v : Value} (hk : c.kk m = 2) (hh : c.w.heap[c.ρ m]? = some (.cells #[u, v] 164 (0, 0))) (ha : RepC c a u) (hb : RepC c b v) : ORep c m (bld a b) := by
  refine ⟨hk, Nat.zero_lt_succ 1, [u, v], ⟨rfl, by simp [bld], fun i j cs x hi hx => ?_⟩, .inr ⟨rfl, hh, rfl⟩⟩
  match i, hi with
  | 0, hi =>
    simp [bld] at hi; subst hi
    match j, hx with
    | 0, hx => simp at hx; subst hx; exact ⟨u, rfl, ha⟩
    | 1, hx => simp at hx; subst hx; exact ⟨v, rfl, hb⟩
theorem copyCheck_ac {hp : Hp} {k : Nat} {a b : CV} (ha : a = .d (.s (.pointer none)) ∨ a = .ph 0 0 0) (h0 : hp 0 = some (bld a b)) : AC Tryz.prog 184 [.c (.ph 0 0 0)] hp k ⟨.tup [], upd hp 0 (some (bld (.ph 0 0 0) b)), k⟩ := by
  refine ⟨⟨_, Tryz.func184, rfl, by kernel_rfl⟩, fun c vs g hU hA => ?_⟩
  obtain ⟨u, v, hh, ru, rv⟩ := bld_cells (g.obj 0 _ h0)
  have hk2 : c.kk 0 = 2 := (g.obj 0 _ h0).1
  cases hA with
  | cons hx ht => cases ht with
  | nil =>
    obtain ⟨hU0, rfl⟩ := hx
    rw [show 0 * c.kk 0 + 0 = 0 by omega]
    have fin : ∀ w' : World, w'.os = c.w.os → w'.tape = c.w.tape → w'.output = c.w.output → c.w.heap.size ≤ w'.heap.size → (∀ q, q < c.w.heap.size → q ≠ c.ρ 0 → w'.heap[q]? = c.w.heap[q]?) → w'.heap[c.ρ 0]? = some (.cells #[.pointer (some ⟨c.ρ 0, 0, none⟩), v] 164 (0, 0)) →
        ∃ v' c', Ending.returned (.tuple #[]) = .returned v' ∧ c'.w = w' ∧ Tr c hp c' (upd hp 0 (some (bld (.ph 0 0 0) b))) ∧ Good c' (upd hp 0 (some (bld (.ph 0 0 0) b))) ∧ RepA c' (.tup []) v' ∧ ∀ m, c'.U m → m < k := fun w' q1 q2 q3 q4 q5 q6 => by
      obtain ⟨g', t'⟩ := good_write (w' := w') (o' := bld (.ph 0 0 0) b) g h0 rfl rfl q1 q2 q3 q4 q5 fun {c'} le hw hρ hkk => bld_rep (by rw [hkk]; exact hk2) (by rw [hρ, hw]; exact q6) ⟨(le.U 0 hU0).1, by rw [hρ, hkk]; simp⟩ (RepC.mono le rv)
      exact ⟨_, _, rfl, rfl, t', g', ⟨[], rfl, .nil⟩, hU⟩
    rcases ha with rfl | rfl
    · obtain rfl := repD_s ru
      refine (check_fresh (c.ρ 0) c.w (by simp [World.cell?, hh]) (by simp [World.shape?, hh]) (by simp [World.frozen?, hh])).mono ?_
      rintro e w' ⟨rfl, rfl⟩
      refine fin _ rfl rfl rfl (by simp [World.setCell]) (fun q hq hne => ?_) ?_
      · simp [World.setCell, Array.getElem?_modify, Ne.symm hne]
      · simp [World.setCell, Array.getElem?_modify, hh]
    · obtain ⟨_, rfl⟩ := ru
      rw [show 0 * c.kk 0 + 0 = 0 by omega] at hh
      refine (check_used (c.ρ 0) c.w (by simp [World.cell?, hh])).mono ?_
      rintro e w' ⟨rfl, rfl⟩
      exact fin _ rfl rfl rfl (Nat.le_refl _) (fun _ _ _ => rfl) hh
def bRow (l : List UInt8) : Obj := dRow 5 1 (l.map fun c => [.s (.int .u8 (c.toNat : Int))])
@[go_sem] theorem r_bRow (l : List UInt8) : bRow l = dRow 5 1 (l.map fun c => [.s (.int .u8 (c.toNat : Int))]) := rfl
theorem copyCheck_L {a b : CV} {o : Option Obj} (ha : a = .d (.s (.pointer none)) ∨ a = .ph 0 0 0) : AC Tryz.prog 184 [.c (.ph 0 0 0)] (hpL [some (bld a b), o]) 2 ⟨.tup [], hpL [some (bld (.ph 0 0 0) b), o], 2⟩ := by
  have := copyCheck_ac (hp := hpL [some (bld a b), o]) (k := 2) ha rfl
  rwa [upd_hpL0] at this
@[go_sem] theorem r_bld (a b : CV) : bld a b = ⟨164, 2, false, [[a, b]]⟩ := rfl
theorem writeByte_ac (a : CV) (ha : a = .d (.s (.pointer none)) ∨ a = .ph 0 0 0) (ds : List UInt8) (x : UInt8) (hl : ds.length ≤ 1099511627776) : AC Tryz.prog 161 [.c (.ph 0 0 0), .c (.d (.s (.int .u8 (x.toNat : Int))))] (hpL [some (bld a (.h 1)), some (bRow ds)]) 2 ⟨.t (.c (.d (.s .nilIface))), hpL [some (bld (.ph 0 0 0) (.h 2)), none, some (bRow (ds ++ [x]))], 3⟩ := by
  refine AC_of Tryz.func161 rfl Tryz.ntmps161 Tryz.results161 (by kernel_rfl) rfl ?_
  simp only [List.zipIdx, List.map, Nat.zero_add, Nat.reduceAdd]
  have hb : (ds.length + 1) * 1 ≤ 140737488355328 := by omega
  rcases ha with rfl | rfl
  · repeat (first | apply Aw_seq | apply Aw_block | apply Aw_skip | apply Aw_exit | refine Aw_condt rfl ?_ | refine Aw_condf rfl ?_ | ((first | refine qr ?_ | refine qd (by kernel_rfl) (by kernel_rfl) ?_); simp only [go_sem, jE, reduceIte, jA, jM, jS, jL, jD, jB, hb]) | refine dk (by kernel_rfl) ?_ | (refine qx (call_L (N' := [0, 1]) (L := []) (copyCheck_L (b := .h 1) (o := some (bRow ds)) (.inl rfl)) rfl (.cons (.nm rfl) (.nil)) (by decide) (by decide) (by decide) (by simp only [go_sem, jE, reduceIte, jA, jM, jS, jL, jD, jB, hb]; first | done | rfl) (.inl rfl) rfl (by decide)) (by simp only [go_sem, jE, reduceIte, jA, jM, jS, jL, jD, jB, hb]; first | done | rfl) rfl (by simp only [go_sem, Nat.reduceLT]) ?_; simp only [go_sem, jE, reduceIte, jA, jM, jS, jL, jD, jB, hb]))

    exact Aw_ret (retL (M := [0, 1, 11]) (.inl rfl) (by simp only [go_sem, jE, reduceIte, jA, jM, jS, jL, jD, jB]; first | done | rfl) rfl rfl (by rfl) (by simp only [go_sem, jE, reduceIte, jA, jM, jS, jL, jD, jB]; first | done | rfl | (and_intros <;> rfl)) (by decide) (by unfold idM; decide))
  · repeat (first | apply Aw_seq | apply Aw_block | apply Aw_skip | apply Aw_exit | refine Aw_condt rfl ?_ | refine Aw_condf rfl ?_ | ((first | refine qr ?_ | refine qd (by kernel_rfl) (by kernel_rfl) ?_); simp only [go_sem, jE, reduceIte, jA, jM, jS, jL, jD, jB, hb]) | refine dk (by kernel_rfl) ?_ | (refine qx (call_L (N' := [0, 1]) (L := []) (copyCheck_L (b := .h 1) (o := some (bRow ds)) (.inr rfl)) rfl (.cons (.nm rfl) (.nil)) (by decide) (by decide) (by decide) (by simp only [go_sem, jE, reduceIte, jA, jM, jS, jL, jD, jB, hb]; first | done | rfl) (.inl rfl) rfl (by decide)) (by simp only [go_sem, jE, reduceIte, jA, jM, jS, jL, jD, jB, hb]; first | done | rfl) rfl (by simp only [go_sem, Nat.reduceLT]) ?_; simp only [go_sem, jE, reduceIte, jA, jM, jS, jL, jD, jB, hb]))
    exact Aw_ret (retL (M := [0, 1, 11]) (.inl rfl) (by simp only [go_sem, jE, reduceIte, jA, jM, jS, jL, jD, jB]; first | done | rfl) rfl rfl (by rfl) (by simp only [go_sem, jE, reduceIte, jA, jM, jS, jL, jD, jB]; first | done | rfl | (and_intros <;> rfl)) (by decide) (by unfold idM; decide))
section
variable {P : Program} {ρ : Go.Shelf.Ren}
set_option maxHeartbeats 1000000 in
set_option maxRecDepth 100000 in
theorem string_exact (L : Lays.n169 P ρ) (X : Builder.Extra P ρ) (b g cap : Nat) (cur : Array Value) (p : Value) (l : List UInt8) (w : World) (hbk : w.heap[b]? = some (.cells #[p, .slice (some ⟨g, 0, none⟩) l.length cap] (ρ.t 72) (0, 0)))
    (hg : w.heap[g]? = some (.cells cur (ρ.t 5) (0, 0))) (hnc : l.length ≤ cap) (hcm : cap ≤ maxLen) (hcs : cur.size = cap * 1) (htake : cur.toList.take (l.length * 1) = Lib.byteCells l) (h0 : l ≠ []) :
    Calls P (ρ.f 169) #[.pointer (some ⟨b, 0, none⟩)] w fun e w' => e = .returned (.string ⟨l.toArray⟩) ∧ w' = w.drew.freeze ⟨g, 0, none⟩ l.length := by
  have hl0 : l.length ≠ 0 := by simpa using h0
  have c1 : w.drew.cell? ⟨b, 1, none⟩ = some (.slice (some ⟨g, 0, none⟩) l.length cap) := by
    have : w.drew.heap[b]? = some (.cells #[p, .slice (some ⟨g, 0, none⟩) l.length cap] (ρ.t 72) (0, 0)) := hbk
    rw [Lib.cell_of_heap this]; rfl
  have hSD : (Builtin.unsafeSliceData_ #[(ρ.t 37)] (ρ.t 127) #[.slice (some ⟨g, 0, none⟩) l.length cap]).run P w.drew = .ok (.pointer (some ⟨g, 0, none⟩)) w.drew :=
    Lib.run_unsafeSliceData_row _ _ _ _ _ _ (by omega)
  have hUS : (Builtin.unsafeString_ #[(ρ.t 127), (ρ.t 3)] (ρ.t 9) #[.pointer (some ⟨g, 0, none⟩), .int .i64 l.length]).run P w.drew = .ok (.string ⟨l.toArray⟩) (w.drew.freeze ⟨g, 0, none⟩ l.length) := by
    refine Lib.run_unsafeString_row w.drew (ρ.t 127) (ρ.t 3) (ρ.t 9) (ρ.t 5) L.t127 X.cellsByte g cur.size (by have hg' : w.drew.heap[g]? = some (.cells cur (ρ.t 5) (0, 0)) := hg; simp [World.shape?, hg']) l h0 (by omega) (by unfold maxLen at hcm; omega) ?_
    intro j x hx
    have hj : j < l.length := (List.getElem?_eq_some_iff.1 hx).1
    have h1 : (Lib.byteCells l)[j]? = some (.int .u8 x.toNat) := by simp [Lib.byteCells, hx]
    rw [← htake, List.getElem?_take, if_pos (by omega)] at h1
    have hg' : w.drew.heap[g]? = some (.cells cur (ρ.t 5) (0, 0)) := hg
    rw [add_eq rfl, Lib.cell_of_heap hg']
    simpa using h1
  have mixed := L.mixed
  have t72 := L.t72; have a72 := L.a72; have z72 := L.z72; have v72 := L.v72; have u72 := run_underlying L.t72
  have t70 := L.t70; have a70 := L.a70; have z70 := L.z70; have v70 := L.v70; have u70 := run_underlying L.t70
  have t37 := L.t37; have a37 := L.a37; have z37 := L.z37; have v37 := L.v37; have u37 := run_underlying L.t37
  have t127 := L.t127; have a127 := L.a127; have z127 := L.z127; have v127 := L.v127; have u127 := run_underlying L.t127
  have t3 := L.t3; have a3 := L.a3; have z3 := L.z3; have v3 := L.v3; have u3 := run_underlying L.t3
  have t9 := L.t9; have a9 := L.a9; have z9 := L.z9; have v9 := L.v9; have u9 := run_underlying L.t9
  have t5 := X.t5; have a5 := X.a5; have z5 := X.z5; have v5 := X.v5; have u5 := run_underlying X.t5
  go_enter L.f169, Body.n169_ntmps ρ
  go_wp2
  go_region_o
  all_goals (go_wp2; go_ret; exact ⟨rfl, rfl⟩)
end
theorem bytes_rep {c : Cx} {m : Nat} {l : List UInt8} (h : ORep c m (bRow l)) : c.w.ownsRow 0 5 1 (c.hd m) l.length (Lib.byteCells l) ∧ ∀ b, (c.hd m).ownBlock = some b → b = c.ρ m := by
  obtain ⟨h1, h2, xs, ⟨e1, e2, e3⟩, ⟨_, ho, hb⟩ | ⟨hr, _⟩⟩ := h
  · refine ⟨?_, hb⟩
    have : xs = Lib.byteCells l := by
      refine List.ext_getElem? fun i => ?_
      simp only [bRow, dRow, List.length_map, Nat.mul_one] at e1
      rcases Nat.lt_or_ge i l.length with hi | hi
      · obtain ⟨x, hx⟩ : ∃ x, l[i]? = some x := ⟨_, List.getElem?_eq_getElem hi⟩
        obtain ⟨u, hu, hr⟩ := e3 i 0 [.d (.s (.int .u8 (x.toNat : Int)))] (.d (.s (.int .u8 (x.toNat : Int)))) (by simp [bRow, dRow, hx]) rfl
        simp only [bRow, dRow, Nat.mul_one, Nat.add_zero] at hu
        rw [hu, repD_s hr]
        simp [Lib.byteCells, hx]
      · rw [List.getElem?_eq_none (by omega), List.getElem?_eq_none (by simp [Lib.byteCells]; omega)]
    rw [← this]
    simpa [bRow, dRow] using ho
  · cases hr
theorem string_ac (a : CV) (l : List UInt8) : AC Tryz.prog 162 [.c (.ph 0 0 0)] (hpL [some (bld a (.h 1)), some (bRow l)]) 2 ⟨.t (sT ⟨l.toArray⟩), hpL [none, none], 2⟩ := by
  refine ⟨⟨_, Tryz.func162, rfl, by kernel_rfl⟩, fun c vs g hU hA => ?_⟩
  obtain ⟨u, v, hh, ru, rv⟩ := bld_cells (g.obj 0 _ rfl)
  have hk2 : c.kk 0 = 2 := (g.obj 0 _ rfl).1
  obtain ⟨hown, hblk⟩ := bytes_rep (g.obj 1 _ rfl)
  cases hA with
  | cons hx ht => cases ht with
  | nil =>
    obtain ⟨hU0, rfl⟩ := hx
    obtain ⟨_, rfl, _⟩ := rv
    rw [show 0 * c.kk 0 + 0 = 0 by omega]
    have fin : ∀ w' : World, w'.os = c.w.os → w'.tape = c.w.tape → w'.output = c.w.output → c.w.heap.size ≤ w'.heap.size → (∀ q, q < c.w.heap.size → (∀ b, (c.hd 1).ownBlock = some b → q ≠ b) → w'.heap[q]? = c.w.heap[q]?) →
        ∃ v' c', Ending.returned (.string ⟨l.toArray⟩) = .returned v' ∧ c'.w = w' ∧ Tr c (hpL [some (bld a (.h 1)), some (bRow l)]) c' (hpL [none, none]) ∧ Good c' (hpL [none, none]) ∧ RepA c' (.t (sT ⟨l.toArray⟩)) v' ∧ ∀ m, c'.U m → m < 2 := fun w' q1 q2 q3 q4 q5 => by
      have hnone : ∀ m o, hpL [none, none] m = some o → False := fun m o h => by
        match m with
        | 0 => cases h
        | 1 => cases h
        | m + 2 => rw [l_c1, l_c1, l_n] at h; cases h
      obtain ⟨g', t'⟩ := Good.drop (hp1 := hpL [none, none]) (w' := w') g (fun m o h => (hnone m o h).elim) q1 q2 q3 q4 fun q hq hn => q5 q hq fun b hb e => hn ⟨⟨1, bRow l, rfl, by subst e; exact hb⟩, fun ⟨m, o, h1, _⟩ => hnone m o h1⟩
      exact ⟨_, _, rfl, rfl, t', g', RepD.s rfl, hU⟩
    rcases l with _ | ⟨x, l⟩
    · rcases hown.2 with ⟨hv, _⟩ | ⟨gb, cap, cur, hv, _, hg, hnc, hcm, hcs, htake⟩
      · rw [hv] at hh
        refine (Any.Builder_String_nil Tryz.lString xExtra c.w.heap.size (c.ρ 0) u c.w hh).mono ?_
        rintro e w' ⟨rfl, hb⟩
        exact fin w' hb.os hb.tape hb.output hb.size fun q hq _ => hb.block q hq
      · rw [hv] at hh
        by_cases hc0 : cap = 0
        · subst hc0
          refine (Any.Builder_String_noroom Tryz.lString xExtra c.w.heap.size (c.ρ 0) gb u cur c.w (Nat.le_refl _) hh hg).mono ?_
          rintro e w' ⟨rfl, hb⟩
          exact fin w' hb.os hb.tape hb.output hb.size fun q hq _ => hb.block q hq
        · refine (Any.Builder_String_room Tryz.lString xExtra c.w.heap.size (c.ρ 0) gb cap u c.w hc0 hh).mono ?_
          rintro e w' ⟨rfl, hb⟩
          exact fin w' hb.os hb.tape hb.output hb.size fun q hq _ => hb.block q hq
    · rcases hown.2 with ⟨_, h0⟩ | ⟨gb, cap, cur, hv, _, hg, hnc, hcm, hcs, htake⟩
      · simp at h0
      · rw [hv] at hh
        refine (string_exact Tryz.lString xExtra (c.ρ 0) gb cap cur u (x :: l) c.w hh hg hnc hcm hcs htake (by simp)).mono ?_
        rintro e w' ⟨rfl, rfl⟩
        have e1 : (x :: l).length ≠ 0 := by simp
        refine fin _ ?_ ?_ ?_ ?_ fun q hq hne => ?_
        · simp only [World.freeze, if_neg e1]; rfl
        · simp only [World.freeze, if_neg e1]; rfl
        · simp only [World.freeze, if_neg e1]; rfl
        · simp only [World.freeze, if_neg e1]; rw [Array.size_modify]; exact Nat.le_refl _
        · simp only [World.freeze, if_neg e1]
          have : q ≠ gb := hne gb (by rw [hv]; rfl)
          rw [Array.getElem?_modify, if_neg (Ne.symm this)]; rfl

/-- A key's letter at a place, - at its end. -/
def lab (k : ByteArray) (d : Nat) : UInt8 := if k.size = d then 45 else k.data.getD d 0
/-- Keys in runs of one letter. -/
def spl (d : Nat) : List ByteArray → List (List ByteArray)
  | [] => []
  | k :: r => (k :: r.takeWhile fun x => lab x d == lab k d) :: spl d (r.dropWhile fun x => lab x d == lab k d)
termination_by l => l.length
decreasing_by simp only [List.length_cons]; have := (List.dropWhile_sublist (fun x => lab x d == lab k d) (l := r)).length_le; omega
theorem spl_nil (d : Nat) : spl d [] = [] := by unfold spl; rfl
theorem spl_cons (d : Nat) (k : ByteArray) (r : List ByteArray) : spl d (k :: r) = (k :: r.takeWhile fun x => lab x d == lab k d) :: spl d (r.dropWhile fun x => lab x d == lab k d) := by conv => lhs; unfold spl
/-- What is kept behind a letter. -/
def cutT (k : ByteArray) (d : Nat) (keep : Nat) : ByteArray := let t := k.extract (min (d + 1) k.size) k.size; t.extract 0 (min keep t.size)
structure Put where
  letters : List UInt8
  more : List UInt8
  first : List UInt8
  rests : List ByteArray
  kids : List (List ByteArray × Nat)
def zPut : Put := ⟨[], [], [], [], []⟩
/-- What a run puts out; m: the mark of the first branch, or of another one. -/
def run1 (keep d : Nat) (m : UInt8) (g : List ByteArray) : Put := match g with
  | [] => zPut
  | [k] => ⟨[lab k d], [48], [m], [cutT k d keep], []⟩
  | k :: k2 :: r => ⟨[lab k d], [49], [m], [], [(k :: k2 :: r, d + 1)]⟩
def Put.add (a b : Put) : Put := ⟨a.letters ++ b.letters, a.more ++ b.more, a.first ++ b.first, a.rests ++ b.rests, a.kids ++ b.kids⟩
def runs (keep d : Nat) : UInt8 → List (List ByteArray) → Put
  | _, [] => zPut
  | m, g :: gs => (run1 keep d m g).add (runs keep d 48 gs)
def node (keep : Nat) (f : List ByteArray × Nat) : Put := runs keep f.2 49 (spl f.2 f.1)
/-- All forks, one behind the other. -/
def bfs (keep : Nat) : Nat → List (List ByteArray × Nat) → Put
  | 0, _ => zPut
  | _ + 1, [] => zPut
  | n + 1, f :: q => { (node keep f).add (bfs keep n (q ++ (node keep f).kids)) with kids := [] }
def wt (f : List ByteArray × Nat) : Nat := 1 + f.1.length * (8 - f.2)
def wts (q : List (List ByteArray × Nat)) : Nat := (q.map wt).sum
/-- Keys of a fork: in order, as long as they must be, alike up to its depth. -/
structure Fork (f : List ByteArray × Nat) : Prop where
  dep : f.2 ≤ 5
  ord : f.1.Pairwise fun a b => klt a b = true
  ok : ∀ k ∈ f.1, keyOk k = true ∧ f.2 ≤ k.size
  alike : ∀ a ∈ f.1, ∀ b ∈ f.1, a.data.toList.take f.2 = b.data.toList.take f.2

theorem Put.add_assoc (a b c : Put) : (a.add b).add c = a.add (b.add c) := by simp [Put.add, List.append_assoc]
theorem Put.addz (a : Put) : a.add zPut = a := by simp [Put.add, zPut]
theorem spl_flat (d : Nat) : ∀ (n : Nat) (l : List ByteArray), l.length ≤ n → (spl d l).flatten = l
  | _, [], _ => by rw [spl_nil]; rfl
  | 0, k :: r, h => by simp at h
  | n + 1, k :: r, h => by
    rw [spl_cons, List.flatten_cons, spl_flat d n _ (by have := (List.dropWhile_sublist (fun x => lab x d == lab k d) (l := r)).length_le; simp at h; omega)]
    simp [List.takeWhile_append_dropWhile]
theorem spl_ne (d : Nat) : ∀ (n : Nat) (l : List ByteArray), l.length ≤ n → ∀ g ∈ spl d l, ∃ k r, g = k :: r ∧ ∀ x ∈ r, lab x d = lab k d
  | _, [], _ => by rw [spl_nil]; simp
  | 0, k :: r, h => by simp at h
  | n + 1, k :: r, h => by
    rw [spl_cons]
    intro g hg
    rcases List.mem_cons.1 hg with rfl | hg
    · exact ⟨k, _, rfl, fun x hx => by simpa using List.all_eq_true.1 List.all_takeWhile x hx⟩
    · exact spl_ne d n _ (by have := (List.dropWhile_sublist (fun x => lab x d == lab k d) (l := r)).length_le; simp at h; omega) g hg
theorem keyOk_size {k : ByteArray} (h : keyOk k = true) : k.size ≤ 5 := by
  unfold keyOk at h; simp at h; exact h.2
theorem keyOk_let {k : ByteArray} (h : keyOk k = true) {i : Nat} (hi : i < k.size) : 97 ≤ (k.data.getD i 0).toNat := by
  unfold keyOk at h
  rw [Bool.and_eq_true] at h
  have hm : k.data.getD i 0 ∈ k.data.toList := by
    rw [Array.getD_eq_getD_getElem?, Array.getElem?_eq_getElem hi]; simp
  have := List.all_eq_true.1 h.1 _ hm
  unfold lettr at this; simp at this; simpa using this.1
theorem lab_end {k : ByteArray} {d : Nat} (h : keyOk k = true) (hd : d ≤ k.size) : lab k d = 45 ↔ k.size = d := by
  unfold lab
  constructor
  · intro hh
    by_cases e : k.size = d
    · exact e
    · rw [if_neg e] at hh
      have := keyOk_let h (i := d) (by omega)
      rw [hh] at this
      exact absurd this (by decide)
  · intro e; rw [if_pos e]
/-- Two keys of one letter go on. -/
theorem two_long {f : List ByteArray × Nat} (hf : Fork f) {a b : ByteArray} (ha : a ∈ f.1) (hb : b ∈ f.1) (hne : a ≠ b) (hl : lab a f.2 = lab b f.2) : f.2 < a.size ∧ a.data.toList.take (f.2 + 1) = b.data.toList.take (f.2 + 1) := by
  obtain ⟨oa, da⟩ := hf.ok a ha
  obtain ⟨ob, db⟩ := hf.ok b hb
  have hal := hf.alike a ha b hb
  have ea : a.size = a.data.toList.length := Array.length_toList.symm
  have eb : b.size = b.data.toList.length := Array.length_toList.symm
  by_cases e : a.size = f.2
  · exfalso
    have h1 : lab b f.2 = 45 := by rw [← hl]; exact (lab_end oa da).2 e
    have e2 := (lab_end ob db).1 h1
    refine hne ?_
    rw [List.take_of_length_le (by omega), List.take_of_length_le (by omega)] at hal
    cases a; cases b
    simp only [ByteArray.mk.injEq]
    exact Array.toList_inj.1 hal
  · have e2 : b.size ≠ f.2 := fun h => by
      have h1 : lab a f.2 = 45 := by rw [hl]; exact (lab_end ob db).2 h
      exact e ((lab_end oa da).1 h1)
    refine ⟨by omega, ?_⟩
    unfold lab at hl
    rw [if_neg e, if_neg e2] at hl
    rw [List.take_succ, List.take_succ, hal]
    congr 1
    rw [Array.getD_eq_getD_getElem?, Array.getD_eq_getD_getElem?] at hl
    have ia : a.data[f.2]? = some (a.data[f.2]'(by show f.2 < a.size; omega)) := Array.getElem?_eq_getElem _
    have ib : b.data[f.2]? = some (b.data[f.2]'(by show f.2 < b.size; omega)) := Array.getElem?_eq_getElem _
    rw [ia, ib] at hl
    simp only [Option.getD_some] at hl
    simp only [Array.getElem?_toList, ia, ib, hl]
theorem runs_kids (keep d : Nat) : ∀ (m : UInt8) (gs : List (List ByteArray)) (k : List ByteArray × Nat), k ∈ (runs keep d m gs).kids → k.1 ∈ gs ∧ k.2 = d + 1 ∧ 2 ≤ k.1.length
  | _, [], k, h => by simp [runs, zPut] at h
  | m, g :: gs, k, h => by
    simp only [runs, Put.add, List.mem_append] at h
    rcases h with h | h
    · match g, h with
      | [], h => simp [run1, zPut] at h
      | [_], h => simp [run1] at h
      | a :: b :: r, h => simp [run1] at h; subst h; exact ⟨by simp, rfl, by simp⟩
    · obtain ⟨h1, h2, h3⟩ := runs_kids keep d 48 gs k h
      exact ⟨List.mem_cons_of_mem _ h1, h2, h3⟩
theorem spl_sub (d : Nat) : ∀ (n : Nat) (l : List ByteArray), l.length ≤ n → ∀ g ∈ spl d l, g.Sublist l
  | _, [], _ => by rw [spl_nil]; simp
  | 0, k :: r, h => by simp at h
  | n + 1, k :: r, h => by
    rw [spl_cons]
    intro g hg
    rcases List.mem_cons.1 hg with rfl | hg
    · exact List.Sublist.cons₂ k (List.takeWhile_sublist _)
    · exact ((spl_sub d n _ (by have := (List.dropWhile_sublist (fun x => lab x d == lab k d) (l := r)).length_le; simp at h; omega) g hg).trans (List.dropWhile_sublist _)).trans (List.sublist_cons_self k r)
/-- The forks that a fork leads to are forks. -/
theorem node_fork {keep : Nat} {f : List ByteArray × Nat} (hf : Fork f) : ∀ k ∈ (node keep f).kids, Fork k := by
  intro k hk
  obtain ⟨h1, h2, h3⟩ := runs_kids keep f.2 49 _ k hk
  have hs := spl_sub f.2 _ f.1 (Nat.le_refl _) k.1 h1
  obtain ⟨x, r, he, hr⟩ := spl_ne f.2 _ f.1 (Nat.le_refl _) k.1 h1
  have hin : ∀ a ∈ k.1, a ∈ f.1 := fun a ha => hs.subset ha
  have hlab : ∀ a ∈ k.1, lab a f.2 = lab x f.2 := fun a ha => by
    rw [he] at ha
    rcases List.mem_cons.1 ha with rfl | ha
    · rfl
    · exact hr a ha
  have hord := hf.ord.sublist hs
  have long : ∀ a ∈ k.1, f.2 < a.size := fun a ha => by
    rw [he] at h3 hord
    match r, h3, hord, he with
    | y :: r, _, hord, he =>
      have hxy : x ≠ y := fun e => by
        have := (List.pairwise_cons.1 hord).1 y (by simp)
        rw [e, klt_irrefl] at this; cases this
      have hx : x ∈ k.1 := by rw [he]; simp
      have hy : y ∈ k.1 := by rw [he]; simp
      by_cases e : a = x
      · subst e; exact (two_long hf (hin a ha) (hin y hy) hxy (by rw [hlab y hy])).1
      · exact (two_long hf (hin a ha) (hin x hx) e (hlab a ha)).1
  refine ⟨by
    have hx : x ∈ k.1 := by rw [he]; simp
    have := keyOk_size (hf.ok x (hin x hx)).1
    have := long x hx
    omega, hord, fun a ha => ⟨(hf.ok a (hin a ha)).1, by rw [h2]; exact long a ha⟩, fun a ha b hb => ?_⟩
  rw [h2]
  by_cases e : a = b
  · rw [e]
  · exact (two_long hf (hin a ha) (hin b hb) e (by rw [hlab a ha, hlab b hb])).2
theorem kids_len (keep d : Nat) : ∀ (m : UInt8) (gs : List (List ByteArray)), ((runs keep d m gs).kids.map fun k => k.1.length).sum ≤ gs.flatten.length ∧ (runs keep d m gs).kids.length ≤ gs.flatten.length
  | _, [] => by simp [runs, zPut]
  | m, g :: gs => by
    have ih := kids_len keep d 48 gs
    rw [List.length_flatten] at ih ⊢
    simp only [runs, Put.add, List.map_append, List.sum_append, List.map_cons, List.sum_cons, List.length_append]
    match g with
    | [] => simp [run1, zPut]; omega
    | [_] => simp [run1]; omega
    | a :: b :: r => simp [run1]; omega
theorem kids_wt {keep : Nat} {f : List ByteArray × Nat} (hd : f.2 ≤ 5) : wts (node keep f).kids < wt f := by
  obtain ⟨h1, h2⟩ := kids_len keep f.2 49 (spl f.2 f.1)
  rw [spl_flat f.2 _ f.1 (Nat.le_refl _)] at h1 h2
  have hk : ∀ k ∈ (node keep f).kids, k.2 = f.2 + 1 := fun k hk => (runs_kids keep f.2 49 _ k hk).2.1
  have e : ∀ (l : List (List ByteArray × Nat)), (∀ k ∈ l, k.2 = f.2 + 1) → wts l = l.length + (l.map fun k => k.1.length).sum * (7 - f.2) := by
    intro l
    induction l with
    | nil => intro _; simp [wts]
    | cons k l ih =>
      intro h
      have := ih fun x hx => h x (List.mem_cons_of_mem _ hx)
      simp only [wts, List.map_cons, List.sum_cons, List.length_cons] at this ⊢
      rw [this, wt, h k (by simp), Nat.add_mul, show 8 - (f.2 + 1) = 7 - f.2 by omega]
      omega
  have := e _ hk
  unfold node at this ⊢
  rw [this]
  unfold wt
  have h3 : ((runs keep f.2 49 (spl f.2 f.1)).kids.map fun k => k.1.length).sum * (7 - f.2) ≤ f.1.length * (7 - f.2) := Nat.mul_le_mul_right _ h1
  have h4 : f.1.length * (8 - f.2) = f.1.length * (7 - f.2) + f.1.length := by rw [show 8 - f.2 = (7 - f.2) + 1 by omega, Nat.mul_succ]
  omega
theorem wts_cons (f : List ByteArray × Nat) (q : List (List ByteArray × Nat)) : wts (f :: q) = wt f + wts q := by simp [wts]
theorem wts_nil : wts [] = 0 := rfl
theorem wts_one (f : List ByteArray × Nat) : wts [f] = wt f := by simp [wts]
theorem wts_app (p q : List (List ByteArray × Nat)) : wts (p ++ q) = wts p + wts q := by simp [wts]
theorem wt_pos (f : List ByteArray × Nat) : 1 ≤ wt f := by unfold wt; omega
theorem wts_len (q : List (List ByteArray × Nat)) : q.length ≤ wts q := by
  induction q with
  | nil => simp [wts]
  | cons f q ih => rw [wts_cons, List.length_cons]; have := wt_pos f; omega
theorem bfs_fuel {keep : Nat} : ∀ (n m : Nat) (q : List (List ByteArray × Nat)), wts q ≤ n → wts q ≤ m → (∀ f ∈ q, Fork f) → bfs keep n q = bfs keep m q
  | n, m, [], _, _, _ => by cases n <;> cases m <;> rfl
  | 0, m, f :: q, h, _, _ => by rw [wts_cons] at h; have := wt_pos f; omega
  | n + 1, 0, f :: q, _, h, _ => by rw [wts_cons] at h; have := wt_pos f; omega
  | n + 1, m + 1, f :: q, h1, h2, hf => by
    rw [wts_cons] at h1 h2
    have hk := kids_wt (keep := keep) (hf f (by simp)).dep
    have e := bfs_fuel (keep := keep) n m (q ++ (node keep f).kids) (by rw [wts_app]; omega) (by rw [wts_app]; omega) fun g hg => by
      rcases List.mem_append.1 hg with hg | hg
      · exact hf g (List.mem_cons_of_mem _ hg)
      · exact node_fork (hf f (by simp)) g hg
    simp only [bfs, e]
/-- All that forks come to. -/
def bfsF (keep : Nat) (q : List (List ByteArray × Nat)) : Put := bfs keep (wts q) q
theorem bfsF_nil (keep : Nat) : bfsF keep [] = zPut := rfl
theorem bfsF_cons {keep : Nat} {f : List ByteArray × Nat} {q : List (List ByteArray × Nat)} (hf : ∀ g ∈ f :: q, Fork g) : bfsF keep (f :: q) = { (node keep f).add (bfsF keep (q ++ (node keep f).kids)) with kids := [] } := by
  have hk := kids_wt (keep := keep) (hf f (by simp)).dep
  have hp := wt_pos f
  unfold bfsF
  rw [bfs_fuel (wts (f :: q)) (wts q + wt f - 1 + 1) (f :: q) (Nat.le_refl _) (by rw [wts_cons]; omega) hf]
  simp only [bfs]
  rw [bfs_fuel (wts q + wt f - 1) (wts (q ++ (node keep f).kids)) _ (by rw [wts_app]; omega) (Nat.le_refl _)]
  intro g hg
  rcases List.mem_append.1 hg with hg | hg
  · exact hf g (List.mem_cons_of_mem _ hg)
  · exact node_fork (hf f (by simp)) g hg
/-- What has been put out, and what is still to come. -/
structure Rest (keep : Nat) (T : Put) (A : Put) (k : Nat) : Prop where
  lt : k ≤ A.kids.length
  fork : ∀ f ∈ A.kids.drop k, Fork f
  letters : A.letters ++ (bfsF keep (A.kids.drop k)).letters = T.letters
  more : A.more ++ (bfsF keep (A.kids.drop k)).more = T.more
  first : A.first ++ (bfsF keep (A.kids.drop k)).first = T.first
  rests : A.rests ++ (bfsF keep (A.kids.drop k)).rests = T.rests
  b1 : A.letters.length + wts (A.kids.drop k) ≤ 1000
  b2 : A.rests.length ≤ A.letters.length
  b3 : k + wts (A.kids.drop k) ≤ 1000
  b4 : A.more.length = A.letters.length
  b5 : A.first.length = A.letters.length
theorem runs_len (keep d : Nat) : ∀ (m : UInt8) (gs : List (List ByteArray)), (runs keep d m gs).rests.length ≤ (runs keep d m gs).letters.length ∧ (runs keep d m gs).more.length = (runs keep d m gs).letters.length ∧ (runs keep d m gs).first.length = (runs keep d m gs).letters.length
  | _, [] => by simp [runs, zPut]
  | m, g :: gs => by
    have ih := runs_len keep d 48 gs
    simp only [runs, Put.add, List.length_append]
    match g with
    | [] => simp [run1, zPut]; exact ih
    | [_] => simp [run1]; omega
    | a :: b :: r => simp [run1]; omega
theorem run1_len (keep d : Nat) (m : UInt8) (g : List ByteArray) : (run1 keep d m g).letters.length ≤ 1 ∧ (run1 keep d m g).rests.length ≤ 1 ∧ (run1 keep d m g).kids.length ≤ 1 ∧ (run1 keep d m g).more.length = (run1 keep d m g).letters.length ∧ (run1 keep d m g).first.length = (run1 keep d m g).letters.length := by
  match g with
  | [] => simp [run1, zPut]
  | [_] => simp [run1]
  | a :: b :: r => simp [run1]
theorem runs_b (keep d : Nat) (hd : d ≤ 5) : ∀ (m : UInt8) (gs : List (List ByteArray)), (runs keep d m gs).letters.length + wts (runs keep d m gs).kids ≤ gs.flatten.length * (8 - d)
  | _, [] => by simp [runs, zPut, wts]
  | m, g :: gs => by
    have ih := runs_b keep d hd 48 gs
    rw [List.length_flatten] at ih ⊢
    simp only [runs, Put.add, List.length_append, wts_app, List.map_cons, List.sum_cons, Nat.add_mul]
    match g with
    | [] => simp only [run1, zPut, wts_nil, List.length_nil]; omega
    | [_] => simp only [run1, wts_nil, List.length_nil, List.length_cons]; omega
    | a :: b :: r =>
      simp only [run1, wts_one, wt, List.length_cons, List.length_nil]
      have : (r.length + 1 + 1) * (8 - d) = (r.length + 1 + 1) * (8 - (d + 1)) + (r.length + 1 + 1) := by rw [show 8 - d = (8 - (d + 1)) + 1 by omega, Nat.mul_succ]
      omega
theorem Rest.next {keep : Nat} {T A : Put} {k : Nat} (h : Rest keep T A k) {f : List ByteArray × Nat} (hf : A.kids[k]? = some f) : Rest keep T (A.add (node keep f)) (k + 1) := by
  have hk : k < A.kids.length := (List.getElem?_eq_some_iff.1 hf).1
  have hd : A.kids.drop k = f :: A.kids.drop (k + 1) := by
    rw [List.drop_eq_getElem_cons hk]; congr 1; rw [List.getElem?_eq_getElem hk] at hf; exact Option.some.inj hf
  have hdr : (A.add (node keep f)).kids.drop (k + 1) = A.kids.drop (k + 1) ++ (node keep f).kids := by
    simp only [Put.add]; rw [List.drop_append_of_le_length (by omega)]
  have hfork := h.fork
  rw [hd] at hfork
  have hb := bfsF_cons (keep := keep) hfork
  have h1 := h.letters; have h2 := h.more; have h3 := h.first; have h4 := h.rests
  rw [hd, hb] at h1 h2 h3 h4
  have hff := hfork f (by simp)
  have rb := runs_b keep f.2 hff.dep 49 (spl f.2 f.1)
  rw [spl_flat f.2 _ f.1 (Nat.le_refl _)] at rb
  have rl := runs_len keep f.2 49 (spl f.2 f.1)
  have hw : wts (A.kids.drop k) = wt f + wts (A.kids.drop (k + 1)) := by rw [hd, wts_cons]
  have c1 := h.b1; have c2 := h.b2; have c3 := h.b3; have c4 := h.b4; have c5 := h.b5
  have e1 : (node keep f).letters.length + wts (node keep f).kids < wt f := by unfold node wt; omega
  refine ⟨by simp [Put.add]; omega, fun g hg => ?_, ?_, ?_, ?_, ?_, ?_, ?_, ?_, ?_, ?_⟩
  · rw [hdr] at hg
    rcases List.mem_append.1 hg with hg | hg
    · exact hfork g (List.mem_cons_of_mem _ hg)
    · exact node_fork hff g hg
  all_goals (try rw [hdr])
  all_goals simp only [Put.add, List.length_append, wts_app]
  · simpa [Put.add, List.append_assoc] using h1
  · simpa [Put.add, List.append_assoc] using h2
  · simpa [Put.add, List.append_assoc] using h3
  · simpa [Put.add, List.append_assoc] using h4
  · omega
  · have : (node keep f).rests.length ≤ (node keep f).letters.length := rl.1
    omega
  · omega
  · have : (node keep f).more.length = (node keep f).letters.length := rl.2.1
    omega
  · have : (node keep f).first.length = (node keep f).letters.length := rl.2.2
    omega
/-- The first run, told by its end. -/
theorem spl_take {d : Nat} {rest : List ByteArray} {x : ByteArray} {n : Nat} (hx : rest[0]? = some x) (h1 : 1 ≤ n) (h2 : n ≤ rest.length) (h3 : ∀ j, j < n → ∀ y, rest[j]? = some y → lab y d = lab x d) (h4 : ∀ y, rest[n]? = some y → lab y d ≠ lab x d) :
    spl d rest = rest.take n :: spl d (rest.drop n) := by
  match rest, hx, n, h1 with
  | k :: r, hx, n + 1, _ =>
    simp at hx; subst hx
    rw [spl_cons]
    have key : ∀ (r : List ByteArray) (n : Nat), n ≤ r.length → (∀ j, j < n → ∀ y, r[j]? = some y → lab y d = lab k d) → (∀ y, r[n]? = some y → lab y d ≠ lab k d) → r.takeWhile (fun x => lab x d == lab k d) = r.take n ∧ r.dropWhile (fun x => lab x d == lab k d) = r.drop n := by
      intro r
      induction r with
      | nil => intro n hn _ _; simp
      | cons y r ih =>
        intro n hn ha hb
        cases n with
        | zero =>
          have := hb y rfl
          simp [this]
        | succ n =>
          have e := ha 0 (by omega) y rfl
          obtain ⟨i1, i2⟩ := ih n (by simpa using hn) (fun j hj z hz => ha (j + 1) (by omega) z (by simpa using hz)) fun z hz => hb z (by simpa using hz)
          simp [e, i1, i2]
    obtain ⟨k1, k2⟩ := key r n (by simpa using h2) (fun j hj y hy => h3 (j + 1) (by omega) y (by simpa using hy)) fun y hy => h4 y (by simpa using hy)
    rw [k1, k2]; simp
theorem Rest.dec {keep : Nat} {T A : Put} {k : Nat} (h : Rest keep T A k) {f : List ByteArray × Nat} (hf : A.kids[k]? = some f) : wts ((A.add (node keep f)).kids.drop (k + 1)) < wts (A.kids.drop k) := by
  have hk : k < A.kids.length := (List.getElem?_eq_some_iff.1 hf).1
  have hd : A.kids.drop k = f :: A.kids.drop (k + 1) := by
    rw [List.drop_eq_getElem_cons hk]; congr 1; rw [List.getElem?_eq_getElem hk] at hf; exact Option.some.inj hf
  have hff := h.fork f (by rw [hd]; simp)
  have := kids_wt (keep := keep) hff.dep
  simp only [Put.add]
  rw [List.drop_append_of_le_length (by omega), wts_app, hd, wts_cons]
  omega
theorem min_le (a b : Nat) : (((min a b : Nat) : Int) ≤ (b : Int)) = True := eq_true (by omega)
theorem min_if (a b : Nat) : (if (b : Int) < (a : Int) then (b : Int) else (a : Int)) = ((min a b : Nat) : Int) := by
  split <;> omega
theorem label_ac (k : ByteArray) (d : Nat) (h : d ≤ k.size) : AC Tryz.prog 151 [sT k, iT d] noHp 0 ⟨.t (.c (.d (.s (.int .u8 ((lab k d).toNat : Int))))), noHp, 0⟩ := by
  refine AC_of Tryz.func151 rfl Tryz.ntmps151 Tryz.results151 (by kernel_rfl) rfl ?_
  simp only [List.zipIdx, List.map, Nat.zero_add, Nat.reduceAdd]
  by_cases e : k.size = d
  · have c : decide ((k.size : Int) = (d : Int)) = true := decide_eq_true (by omega)
    repeat (first | apply Aw_seq | apply Aw_block | apply Aw_skip | apply Aw_exit | refine Aw_condt rfl ?_ | refine Aw_condf rfl ?_ | ((first | refine qr ?_ | refine qd (by kernel_rfl) (by kernel_rfl) ?_); simp only [go_sem, jE, reduceIte, jA, jM, jS, jL, jD, jB, c]) | refine dk (by kernel_rfl) ?_)
    exact Aw_ret (ret0 (.inl rfl) (by simp only [go_sem, jE, reduceIte, jA, jM, jS, jL, jD, jB]; rfl) (by unfold lab; rw [if_pos e]; rfl) rfl)
  · have c : decide ((k.size : Int) = (d : Int)) = false := decide_eq_false (by omega)
    have hx := ixB_ok (hp := noHp) (s := k) (i := d) (by omega)
    have hl : lab k d = k[d]'(by omega) := by
      unfold lab; rw [if_neg e, Array.getD_eq_getD_getElem?, Array.getElem?_eq_getElem (by show d < k.size; omega)]; rfl
    repeat (first | apply Aw_seq | apply Aw_block | apply Aw_skip | apply Aw_exit | refine Aw_condt rfl ?_ | refine Aw_condf rfl ?_ | ((first | refine qr ?_ | refine qd (by kernel_rfl) (by kernel_rfl) ?_); simp only [go_sem, jE, reduceIte, jA, jM, jS, jL, jD, jB, c, hx]) | refine dk (by kernel_rfl) ?_)
    exact Aw_ret (ret0 (.inl rfl) (by simp only [go_sem, jE, reduceIte, jA, jM, jS, jL, jD, jB]; rfl) (by rw [hl]) rfl)
def adr (w : Bool) (m : Nat) : CV := if w = true then .ph m 0 0 else .d (.s (.pointer none))
@[go_sem] theorem adr_t (m : Nat) : adr true m = .ph m 0 0 := rfl
@[go_sem] theorem adr_f (m : Nat) : adr false m = .d (.s (.pointer none)) := rfl
@[go_sem] theorem adr_r (w : Bool) (π : Nat → Nat) (m : Nat) : (adr w m).ren π = adr w (π m) := by cases w <;> rfl
@[go_sem] theorem adr_b (w : Bool) (m k : Nat) : CV.bd k (adr w m) = (!w || decide (m < k)) := by cases w <;> simp [adr, CV.bd]
theorem wByte (w : Bool) (ds : List UInt8) (x : UInt8) (hl : ds.length ≤ 1000000) : AC Tryz.prog 161 [.c (.ph 0 0 0), .c (.d (.s (.int .u8 (x.toNat : Int))))] (hpL [some (bld (adr w 0) (.h 1)), some (bRow ds)]) 2 ⟨.t (.c (.d (.s .nilIface))), hpL [some (bld (.ph 0 0 0) (.h 2)), none, some (bRow (ds ++ [x]))], 3⟩ :=
  writeByte_ac _ (by cases w; exact .inl rfl; exact .inr rfl) ds x (by omega)
def grpD (f : List ByteArray × Nat) : List D := [.rs 1 (f.1.map strD), .s (.int .i64 (f.2 : Int))]
@[go_sem] theorem r_grpD (f : List ByteArray × Nat) : grpD f = [.rs 1 (f.1.map strD), .s (.int .i64 (f.2 : Int))] := rfl
def svO (a b c : ByteArray) (r : CV) (keep : Int) : Obj := ⟨82, 5, false, [[.d (.s (.string a)), .d (.s (.string b)), .d (.s (.string c)), r, .d (.s (.int .i64 keep))]]⟩
@[go_sem] theorem r_svO (a b c : ByteArray) (r : CV) (keep : Int) : svO a b c r keep = ⟨82, 5, false, [[.d (.s (.string a)), .d (.s (.string b)), .d (.s (.string c)), r, .d (.s (.int .i64 keep))]]⟩ := rfl
def zs : ByteArray := ByteArray.empty
/-- The objects at the head of the loops. -/
def svH (w : Bool) (A : Put) (keep : Nat) : List (Option Obj) := [some (svO zs zs zs (.d (.s (.slice none 0 0))) 0), some (bld (adr w 1) (.h 4)), some (bld (adr w 2) (.h 5)), some (bld (adr w 3) (.h 6)), some (bRow A.letters), some (bRow A.more), some (bRow A.first), some (svO zs zs zs (.h 9) keep), some (dRow 166 2 (A.kids.map grpD)), some (kRow A.rests)]
@[go_sem] theorem r_svH (w : Bool) (A : Put) (keep : Nat) : svH w A keep = [some (svO zs zs zs (.d (.s (.slice none 0 0))) 0), some (bld (adr w 1) (.h 4)), some (bld (adr w 2) (.h 5)), some (bld (adr w 3) (.h 6)), some (bRow A.letters), some (bRow A.more), some (bRow A.first), some (svO zs zs zs (.h 9) keep), some (dRow 166 2 (A.kids.map grpD)), some (kRow A.rests)] := rfl
@[go_sem] theorem r_zs : ByteArray.empty = zs := rfl
theorem rest0 {keys : List ByteArray} {keep : Nat} (hf : Fork (keys, 0)) (hl : keys.length ≤ 24) : Rest keep (bfsF keep [(keys, 0)]) ⟨[], [], [], [], [(keys, 0)]⟩ 0 := by
  have e : wts [(keys, 0)] ≤ 200 := by rw [wts_one]; unfold wt; simp only []; omega
  refine ⟨Nat.zero_le _, fun f h => ?_, rfl, rfl, rfl, rfl, ?_, Nat.le_refl _, ?_, rfl, rfl⟩
  · simp at h; subst h; exact hf
  · simp only [List.drop_zero, List.length_nil]; omega
  · simp only [List.drop_zero]; omega
abbrev svSl (keys : List ByteArray) (keep k : Nat) : List (Nat × AV) := [(10, .t (iT k)), (9, .t (.c (.h 8))), (8, .t (.c (.ph 7 0 0))), (7, .t (.c (.ph 3 0 0))), (6, .t (.c (.ph 2 0 0))), (5, .t (.c (.ph 1 0 0))), (4, .t (.c (.ph 0 0 0))), (0, .t (strsT keys)), (1, .t (iT keep))]
structure MidI (keep : Nat) (G : Put) (f : List ByteArray × Nat) where
  B : Put
  rest : List ByteArray
  w : Bool
  m : UInt8
  eq : B.add (runs keep f.2 m (spl f.2 rest)) = G
  sub : ∀ x ∈ rest, x ∈ f.1
  l1 : B.letters.length + rest.length ≤ 2000
  l2 : B.rests.length + rest.length ≤ 2000
  l3 : B.kids.length + rest.length ≤ 3000
  b4 : B.more.length = B.letters.length
  b5 : B.first.length = B.letters.length
abbrev midSl (keys : List ByteArray) (keep k : Nat) (rest : List ByteArray) (d : Nat) (m : UInt8) : List (Nat × AV) := (13, .t (.c (.d (.s (.int .u8 (m.toNat : Int)))))) :: (12, .t (iT d)) :: (11, .t (strsT rest)) :: svSl keys keep k
structure InI (d : Nat) (rest : List ByteArray) (x : ByteArray) where
  n : Nat
  h1 : 1 ≤ n
  h2 : n ≤ rest.length
  h3 : ∀ j, j < n → ∀ y, rest[j]? = some y → lab y d = lab x d
structure SvI (keep : Nat) (T : Put) where
  A : Put
  k : Nat
  w : Bool
  h : Rest keep T A k
theorem sieveOf_ac (keys : List ByteArray) (keep : Nat) (hf : Fork (keys, 0)) (hl : keys.length ≤ 24) (hk : keep ≤ 5) :
    AC Tryz.prog 134 [strsT keys, iT keep] noHp 0 ⟨.t (.agg [.d (.s (.string ⟨(bfsF keep [(keys, 0)]).letters.toArray⟩)), .d (.s (.string ⟨(bfsF keep [(keys, 0)]).more.toArray⟩)), .d (.s (.string ⟨(bfsF keep [(keys, 0)]).first.toArray⟩)), .h 0, .d (.s (.int .i64 keep))]), hpL [some (kRow (bfsF keep [(keys, 0)]).rests)], 1⟩ := by
  refine AC_of Tryz.func134 rfl Tryz.ntmps134 Tryz.results134 (by kernel_rfl) rfl ?_
  simp only [List.zipIdx, List.map, Nat.zero_add, Nat.reduceAdd]
  repeat (first | apply Aw_seq | apply Aw_block | apply Aw_skip | apply Aw_exit | refine Aw_condt rfl ?_ | refine Aw_condf rfl ?_ | ((first | refine qr ?_ | refine qd (by kernel_rfl) (by kernel_rfl) ?_); simp only [go_sem, jE, reduceIte, jA, jM, jS, jL, jD, jB]) | refine dk (by kernel_rfl) ?_)
  refine Aw.ownC (m := 1) (i := 1) (e := 5) (j := 1) rfl rfl (by decide) (by simp only [Nat.reduceAdd]; rfl) rfl ?_
  refine Aw.ownC (m := 2) (i := 1) (e := 5) (j := 1) rfl rfl (by decide) (by simp only [Nat.reduceAdd]; rfl) rfl ?_
  refine Aw.ownC (m := 3) (i := 1) (e := 5) (j := 1) rfl rfl (by decide) (by simp only [Nat.reduceAdd]; rfl) rfl ?_
  refine Aw.ownC (m := 6) (i := 3) (e := 9) (j := 1) rfl rfl (by decide) (by simp only [Nat.reduceAdd]; rfl) rfl ?_
  refine Aw.rw (rwL (l' := svSl keys keep 0) (os := svH false ⟨[], [], [], [], [(keys, 0)]⟩ keep) (M := [0, 1, 2, 3, 13, 14, 15, 6, 10, 16]) (n' := 10) (by repeat (first | exact trivial | refine ⟨rfl, rfl, ?_⟩)) (by rfl) (by simp only [go_sem, jE, reduceIte, jA, jM, jS, jL, jD, jB]; first | done | rfl) (by decide) (by unfold idM; decide)) ?_
  refine Aw_loop_rw (ι := SvI keep (bfsF keep [(keys, 0)])) (fun i => S (svSl keys keep i.k) (hpL (svH i.w i.A keep)) 10) (fun i => wts (i.A.kids.drop i.k)) ⟨_, 0, false, rest0 hf hl⟩ ?_
  rintro ⟨A, k, w, h⟩
  dsimp only
  by_cases hlt : k < A.kids.length
  · have h1 : (k : Int) < (A.kids.length : Int) := by omega
    obtain ⟨f, hx⟩ : ∃ f, A.kids[k]? = some f := ⟨_, List.getElem?_eq_getElem hlt⟩
    repeat (first | apply Aw_seq | apply Aw_block | apply Aw_skip | apply Aw_exit | refine Aw_condt rfl ?_ | refine Aw_condf rfl ?_ | ((first | refine qr ?_ | refine qd (by kernel_rfl) (by kernel_rfl) ?_); simp only [go_sem, jE, reduceIte, jA, jM, jS, jL, jD, jB, h1, hx, hlt]) | refine dk (by kernel_rfl) ?_)
    have hff := h.fork f (by rw [List.drop_eq_getElem_cons hlt]; rw [List.getElem?_eq_getElem hlt] at hx; rw [Option.some.inj hx]; simp)
    have hb1 := h.b1; have hb2 := h.b2; have hb3 := h.b3; have hb4 := h.b4; have hb5 := h.b5
    have hwf : f.1.length ≤ 1000 := by
      have e : A.kids.drop k = f :: A.kids.drop (k + 1) := by rw [List.drop_eq_getElem_cons hlt]; congr 1; rw [List.getElem?_eq_getElem hlt] at hx; exact Option.some.inj hx
      rw [e, wts_cons] at hb1
      have := hff.dep
      unfold wt at hb1
      have : f.1.length ≤ f.1.length * (8 - f.2) := Nat.le_mul_of_pos_right _ (by omega)
      omega
    have hkl : A.kids.length ≤ 1000 := by have := wts_len (A.kids.drop k); simp at this; omega
    refine Aw.rw (rwL (l' := midSl keys keep k f.1 f.2 49) (os := svH w A keep) (M := [0, 1, 2, 3, 4, 5, 6, 7, 8, 9]) (n' := 10) (by repeat (first | exact trivial | refine ⟨rfl, rfl, ?_⟩)) (by rfl) (by simp only [go_sem, jE, reduceIte, jA, jM, jS, jL, jD, jB]; first | done | rfl) (by decide) (by unfold idM; decide)) ?_
    refine Aw_loop_rw (ι := MidI keep (A.add (node keep f)) f) (fun i => S (midSl keys keep k i.rest f.2 i.m) (hpL (svH i.w i.B keep)) 10) (fun i => i.rest.length) ⟨A, f.1, w, 49, rfl, fun x h => h, by omega, by omega, by omega, hb4, hb5⟩ ?_
    rintro ⟨B, rest, w, m, eq, sub, l1, l2, l3, b4, b5⟩
    dsimp only
    rcases hr : rest with _ | ⟨x, r⟩
    · subst hr
      have e : B = A.add (node keep f) := by rw [spl_nil] at eq; simpa [runs, Put.addz] using eq
      subst e
      have h2 := wrap_succ hlt (by omega)
      repeat (first | apply Aw_seq | apply Aw_block | apply Aw_skip | apply Aw_exit | refine Aw_condt rfl ?_ | refine Aw_condf rfl ?_ | ((first | refine qr ?_ | refine qd (by kernel_rfl) (by kernel_rfl) ?_); simp only [go_sem, jE, reduceIte, jA, jM, jS, jL, jD, jB, h2]) | refine dk (by kernel_rfl) ?_)
      refine ⟨⟨_, k + 1, w, h.next hx⟩, [0, 1, 2, 3, 4, 5, 6, 7, 8, 9], ?_, rwL (by repeat (first | exact trivial | refine ⟨rfl, rfl, ?_⟩)) (by rfl) (by simp only [go_sem, jE, reduceIte, jA, jM, jS, jL, jD, jB]; first | done | rfl) (by decide) (by unfold idM; decide)⟩
      exact h.dec hx
    · rw [← hr]
      have hx0 : rest[0]? = some x := by rw [hr]; rfl
      have hlen : 1 ≤ rest.length := by rw [hr]; simp
      have hpos : decide ((0 : Int) < (rest.length : Int)) = true := decide_eq_true (by omega)
      have hxf := sub x (by rw [hr]; simp)
      have hxd := (hff.ok x hxf).2
      have hxs := keyOk_size (hff.ok x hxf).1
      clear hr
      repeat (first | apply Aw_seq | apply Aw_block | apply Aw_skip | apply Aw_exit | refine Aw_condt rfl ?_ | refine Aw_condf rfl ?_ | ((first | refine qr ?_ | refine qd (by kernel_rfl) (by kernel_rfl) ?_); simp only [go_sem, jE, reduceIte, jA, jM, jS, jL, jD, jB, hpos]) | refine dk (by kernel_rfl) ?_)
      refine cut_loop (J := fun (i : { i : InI f.2 rest x // ∀ y, rest[i.n]? = some y → lab y f.2 ≠ lab x f.2 }) => S ((14, .t (iT i.1.n)) :: midSl keys keep k rest f.2 m) (hpL (svH w B keep)) 10) ?_ ?_
      · refine Aw.rw (rwL (l' := (14, .t (iT (1 : Nat))) :: midSl keys keep k rest f.2 m) (os := svH w B keep) (M := [0, 1, 2, 3, 4, 5, 6, 7, 8, 9]) (n' := 10) (by repeat (first | exact trivial | refine ⟨rfl, rfl, ?_⟩)) (by rfl) (by simp only [go_sem, jE, reduceIte, jA, jM, jS, jL, jD, jB]; first | done | rfl) (by decide) (by unfold idM; decide)) ?_
        refine Aw_loop_rw (ι := InI f.2 rest x) (fun i => S ((14, .t (iT i.n)) :: midSl keys keep k rest f.2 m) (hpL (svH w B keep)) 10) (fun i => rest.length - i.n) ⟨1, Nat.le_refl _, hlen, fun j hj y hy => by obtain rfl : j = 0 := (by omega); rw [hx0] at hy; rw [Option.some.inj hy]⟩ ?_
        rintro ⟨n, n1, n2, n3⟩
        dsimp only
        by_cases hn : n < rest.length
        · have c1 : decide ((n : Int) < (rest.length : Int)) = true := decide_eq_true (by omega)
          obtain ⟨y, hy⟩ : ∃ y, rest[n]? = some y := ⟨_, List.getElem?_eq_getElem hn⟩
          have hyd := (hff.ok y (sub y (List.mem_of_getElem? hy))).2
          have hw := wrap_succ hn (by omega)
          by_cases c2 : lab y f.2 = lab x f.2
          · have c3 : decide (((lab y f.2).toNat : Int) = ((lab x f.2).toNat : Int)) = true := decide_eq_true (by rw [c2])
            repeat (first | apply Aw_seq | apply Aw_block | apply Aw_skip | apply Aw_exit | refine Aw_condt rfl ?_ | refine Aw_condf rfl ?_ | ((first | refine qr ?_ | refine qd (by kernel_rfl) (by kernel_rfl) ?_); simp only [go_sem, jE, reduceIte, jA, jM, jS, jL, jD, jB, c1, hy, hx0, c3, hw]) | refine dk (by kernel_rfl) ?_ | (refine qp (label_ac y f.2 hyd) (by simp only [go_sem, jE, reduceIte, jA, jM, jS, jL, jD, jB, c1, hy, hx0, c3, hw]; first | done | rfl) rfl (by simp only [go_sem, Nat.reduceLT]) rfl rfl ?_; simp only [go_sem, jE, reduceIte, jA, jM, jS, jL, jD, jB, c1, hy, hx0, c3, hw]) | (refine qp (label_ac x f.2 hxd) (by simp only [go_sem, jE, reduceIte, jA, jM, jS, jL, jD, jB, c1, hy, hx0, c3, hw]; first | done | rfl) rfl (by simp only [go_sem, Nat.reduceLT]) rfl rfl ?_; simp only [go_sem, jE, reduceIte, jA, jM, jS, jL, jD, jB, c1, hy, hx0, c3, hw]))
            refine ⟨(⟨n + 1, by omega, by omega, fun j hj z hz => by rcases Nat.lt_succ_iff_lt_or_eq.1 hj with h | rfl; exact n3 j h z hz; rw [hy] at hz; rw [← Option.some.inj hz]; exact c2⟩ : InI f.2 rest x), [0, 1, 2, 3, 4, 5, 6, 7, 8, 9], ?_, rwL (by repeat (first | exact trivial | refine ⟨rfl, rfl, ?_⟩)) (by rfl) (by simp only [go_sem, jE, reduceIte, jA, jM, jS, jL, jD, jB]; first | done | rfl) (by decide) (by unfold idM; decide)⟩
            show rest.length - (n + 1) < rest.length - n; omega
          · have c3 : decide (((lab y f.2).toNat : Int) = ((lab x f.2).toNat : Int)) = false := decide_eq_false fun e => c2 (UInt8.toNat_inj.1 (by omega))
            repeat (first | apply Aw_seq | apply Aw_block | apply Aw_skip | apply Aw_exit | refine Aw_condt rfl ?_ | refine Aw_condf rfl ?_ | ((first | refine qr ?_ | refine qd (by kernel_rfl) (by kernel_rfl) ?_); simp only [go_sem, jE, reduceIte, jA, jM, jS, jL, jD, jB, c1, hy, hx0, c3, hw]) | refine dk (by kernel_rfl) ?_ | (refine qp (label_ac y f.2 hyd) (by simp only [go_sem, jE, reduceIte, jA, jM, jS, jL, jD, jB, c1, hy, hx0, c3, hw]; first | done | rfl) rfl (by simp only [go_sem, Nat.reduceLT]) rfl rfl ?_; simp only [go_sem, jE, reduceIte, jA, jM, jS, jL, jD, jB, c1, hy, hx0, c3, hw]) | (refine qp (label_ac x f.2 hxd) (by simp only [go_sem, jE, reduceIte, jA, jM, jS, jL, jD, jB, c1, hy, hx0, c3, hw]; first | done | rfl) rfl (by simp only [go_sem, Nat.reduceLT]) rfl rfl ?_; simp only [go_sem, jE, reduceIte, jA, jM, jS, jL, jD, jB, c1, hy, hx0, c3, hw]))
            exact ⟨rfl, ⟨⟨n, n1, n2, n3⟩, fun z hz => by rw [hy] at hz; rw [← Option.some.inj hz]; exact c2⟩, [0, 1, 2, 3, 4, 5, 6, 7, 8, 9], rwL (by repeat (first | exact trivial | refine ⟨rfl, rfl, ?_⟩)) (by rfl) (by simp only [go_sem, jE, reduceIte, jA, jM, jS, jL, jD, jB]; first | done | rfl) (by decide) (by unfold idM; decide)⟩
        · have c1 : decide ((n : Int) < (rest.length : Int)) = false := decide_eq_false (by omega)
          repeat (first | apply Aw_seq | apply Aw_block | apply Aw_skip | apply Aw_exit | refine Aw_condt rfl ?_ | refine Aw_condf rfl ?_ | ((first | refine qr ?_ | refine qd (by kernel_rfl) (by kernel_rfl) ?_); simp only [go_sem, jE, reduceIte, jA, jM, jS, jL, jD, jB, c1]) | refine dk (by kernel_rfl) ?_)
          exact ⟨rfl, ⟨⟨n, n1, n2, n3⟩, fun z hz => by rw [show rest[n]? = none from List.getElem?_eq_none (by omega)] at hz; cases hz⟩, [0, 1, 2, 3, 4, 5, 6, 7, 8, 9], rwL (by repeat (first | exact trivial | refine ⟨rfl, rfl, ?_⟩)) (by rfl) (by simp only [go_sem, jE, reduceIte, jA, jM, jS, jL, jD, jB]; first | done | rfl) (by decide) (by unfold idM; decide)⟩
      · rintro ⟨⟨n, n1, n2, n3⟩, n4⟩
        dsimp only at n4 ⊢
        have lx := label_ac x f.2 hxd
        repeat (first | apply Aw_seq | apply Aw_block | apply Aw_skip | apply Aw_exit | refine Aw_condt rfl ?_ | refine Aw_condf rfl ?_ | ((first | refine qr ?_ | refine qd (by kernel_rfl) (by kernel_rfl) ?_); simp only [go_sem, jE, reduceIte, jA, jM, jS, jL, jD, jB, hx0]) | refine dk (by kernel_rfl) ?_ | (refine qp (label_ac x f.2 hxd) (by simp only [go_sem, jE, reduceIte, jA, jM, jS, jL, jD, jB, hx0]; first | done | rfl) rfl (by simp only [go_sem, Nat.reduceLT]) rfl rfl ?_; simp only [go_sem, jE, reduceIte, jA, jM, jS, jL, jD, jB, hx0]) | (refine qx (call_L (N' := [1, 4]) (L := []) (wByte w B.letters (lab x f.2) (by omega)) rfl (.cons (.nm rfl) (.cons (.nm rfl) (.nil))) (by decide) (by decide) (by decide) (by simp only [go_sem, jE, reduceIte, jA, jM, jS, jL, jD, jB, hx0]; first | done | rfl) (.inl rfl) rfl (by decide)) (by simp only [go_sem, jE, reduceIte, jA, jM, jS, jL, jD, jB, hx0]; first | done | rfl) rfl (by simp only [go_sem, Nat.reduceLT]) ?_; simp only [go_sem, jE, reduceIte, jA, jM, jS, jL, jD, jB, hx0]) | (refine qx (call_L (N' := [3, 6]) (L := []) (wByte w B.first m (by omega)) rfl (.cons (.nm rfl) (.cons (.nm rfl) (.nil))) (by decide) (by decide) (by decide) (by simp only [go_sem, jE, reduceIte, jA, jM, jS, jL, jD, jB, hx0]; first | done | rfl) (.inl rfl) rfl (by decide)) (by simp only [go_sem, jE, reduceIte, jA, jM, jS, jL, jD, jB, hx0]; first | done | rfl) rfl (by simp only [go_sem, Nat.reduceLT]) ?_; simp only [go_sem, jE, reduceIte, jA, jM, jS, jL, jD, jB, hx0]))
        have hg := spl_take hx0 n1 n2 n3 n4
        have hg1 : rest.take n = x :: (rest.drop 1).take (n - 1) := by
          match rest, hx0, n, n1 with
          | y :: r, hx0, n + 1, _ => simp at hx0; subst hx0; simp
        have hnl : ((n : Int) ≤ (rest.length : Int)) = True := eq_true (by omega)
        have hkm : List.take n (List.map strD rest) = List.map strD (rest.take n) := List.map_take.symm
        have htd : List.drop n (List.take rest.length (List.map strD rest)) = List.map strD (rest.drop n) := by
          rw [List.take_of_length_le (by simp), ← List.map_drop]
        have wd : IntKind.i64.wrap ((f.2 : Int) + 1) = ((f.2 + 1 : Nat) : Int) := wrap_succ (m := 10) (by have := hff.dep; omega) (by omega)
        refine cut_seq (J := fun (_ : Unit) => S ((14, .t (iT n)) :: midSl keys keep k rest f.2 48) (hpL (svH true (B.add (run1 keep f.2 m (rest.take n))) keep)) 10) ?_ ?_
        · by_cases hn : 1 < n
          · have c1 : decide ((1 : Int) < (n : Int)) = true := decide_eq_true (by omega)
            have hq : (B.kids.length + 1) * 32 ≤ 140737488355328 := by omega
            rw [c1]
            repeat (first | apply Aw_seq | apply Aw_block | apply Aw_skip | apply Aw_exit | refine Aw_condt rfl ?_ | refine Aw_condf rfl ?_ | ((first | refine qr ?_ | refine qd (by kernel_rfl) (by kernel_rfl) ?_); simp only [go_sem, jE, reduceIte, jA, jM, jS, jL, jD, jB, c1, hnl, hkm, hq, wd]) | refine dk (by kernel_rfl) ?_ | (refine qx (call_L (N' := [2, 5]) (L := []) (wByte w B.more 49 (by omega)) rfl (.cons (.nm rfl) (.cons (.nm rfl) (.nil))) (by decide) (by decide) (by decide) (by simp only [go_sem, jE, reduceIte, jA, jM, jS, jL, jD, jB, c1, hnl, hkm, hq, wd]; first | done | rfl) (.inl rfl) rfl (by decide)) (by simp only [go_sem, jE, reduceIte, jA, jM, jS, jL, jD, jB, c1, hnl, hkm, hq, wd]; first | done | rfl) rfl (by simp only [go_sem, Nat.reduceLT]) ?_; simp only [go_sem, jE, reduceIte, jA, jM, jS, jL, jD, jB, c1, hnl, hkm, hq, wd]))
            have hrun : run1 keep f.2 m (rest.take n) = ⟨[lab x f.2], [49], [m], [], [(rest.take n, f.2 + 1)]⟩ := by
              have h2 : 2 ≤ (rest.take n).length := by rw [List.length_take]; omega
              match h : rest.take n, hg1, h2 with
              | y :: z :: q, hg1, _ => obtain ⟨rfl, _⟩ := List.cons.inj hg1; rfl
            exact ⟨(), [0, 1, 2, 3, 14, 20, 16, 7, 29, 9], rwL (by repeat (first | exact trivial | refine ⟨rfl, rfl, ?_⟩)) (by rfl) (by simp only [go_sem, jE, reduceIte, jA, jM, jS, jL, jD, jB, hrun, Put.add]; first | done | rfl) (by decide) (by unfold idM; decide)⟩
          · have c1 : decide ((1 : Int) < (n : Int)) = false := decide_eq_false (by omega)
            have hq : (B.rests.length + 1) * 16 ≤ 140737488355328 := by omega
            rw [c1]
            repeat (first | apply Aw_seq | apply Aw_block | apply Aw_skip | apply Aw_exit | refine Aw_condt rfl ?_ | refine Aw_condf rfl ?_ | ((first | refine qr ?_ | refine qd (by kernel_rfl) (by kernel_rfl) ?_); simp only [go_sem, jE, reduceIte, jA, jM, jS, jL, jD, jB, c1, hx0, hq, wd, min_if, min_le]) | refine dk (by kernel_rfl) ?_ | (refine qx (call_L (N' := [2, 5]) (L := []) (wByte w B.more 48 (by omega)) rfl (.cons (.nm rfl) (.cons (.nm rfl) (.nil))) (by decide) (by decide) (by decide) (by simp only [go_sem, jE, reduceIte, jA, jM, jS, jL, jD, jB, c1, hx0, hq, wd, min_if, min_le]; first | done | rfl) (.inl rfl) rfl (by decide)) (by simp only [go_sem, jE, reduceIte, jA, jM, jS, jL, jD, jB, c1, hx0, hq, wd, min_if, min_le]; first | done | rfl) rfl (by simp only [go_sem, Nat.reduceLT]) ?_; simp only [go_sem, jE, reduceIte, jA, jM, jS, jL, jD, jB, c1, hx0, hq, wd, min_if, min_le]))
            have hrun : run1 keep f.2 m (rest.take n) = ⟨[lab x f.2], [48], [m], [cutT x f.2 keep], []⟩ := by
              obtain rfl : n = 1 := by omega
              rw [hg1]; rfl
            exact ⟨(), [0, 1, 2, 3, 14, 20, 16, 7, 8, 42], rwL (by repeat (first | exact trivial | refine ⟨rfl, rfl, ?_⟩)) (by rfl) (by simp only [go_sem, jE, reduceIte, jA, jM, jS, jL, jD, jB, hrun, Put.add, cutT]; first | done | rfl) (by decide) (by unfold idM; decide)⟩
        · intro _
          repeat (first | apply Aw_seq | apply Aw_block | apply Aw_skip | apply Aw_exit | refine Aw_condt rfl ?_ | refine Aw_condf rfl ?_ | ((first | refine qr ?_ | refine qd (by kernel_rfl) (by kernel_rfl) ?_); simp only [go_sem, jE, reduceIte, jA, jM, jS, jL, jD, jB, hnl, htd]) | refine dk (by kernel_rfl) ?_)
          refine ⟨⟨B.add (run1 keep f.2 m (rest.take n)), rest.drop n, true, 48, by rw [← eq, hg]; simp only [runs, Put.add_assoc], fun z hz => sub z (List.mem_of_mem_drop hz), by rw [List.length_drop]; have := (run1_len keep f.2 m (rest.take n)).1; simp only [Put.add, List.length_append]; omega, by rw [List.length_drop]; have := (run1_len keep f.2 m (rest.take n)).2.1; simp only [Put.add, List.length_append]; omega, by rw [List.length_drop]; have := (run1_len keep f.2 m (rest.take n)).2.2.1; simp only [Put.add, List.length_append]; omega, by have := (run1_len keep f.2 m (rest.take n)).2.2.2.1; simp only [Put.add, List.length_append]; omega, by have := (run1_len keep f.2 m (rest.take n)).2.2.2.2; simp only [Put.add, List.length_append]; omega⟩, [0, 1, 2, 3, 4, 5, 6, 7, 8, 9], ?_, rwL (by repeat (first | exact trivial | refine ⟨rfl, rfl, ?_⟩)) (by rfl) (by simp only [go_sem, jE, reduceIte, jA, jM, jS, jL, jD, jB]; first | done | rfl) (by decide) (by unfold idM; decide)⟩
          show (rest.drop n).length < rest.length
          rw [List.length_drop]; omega
  · have h1 : ¬ (k : Int) < (A.kids.length : Int) := by omega
    have hk0 : A.kids.drop k = [] := by rw [List.drop_eq_nil_iff]; omega
    have e1 := h.letters; have e2 := h.more; have e3 := h.first; have e4 := h.rests
    rw [hk0, bfsF_nil] at e1 e2 e3 e4
    simp only [zPut, List.append_nil] at e1 e2 e3 e4
    repeat (first | apply Aw_seq | apply Aw_block | apply Aw_skip | apply Aw_exit | refine Aw_condt rfl ?_ | refine Aw_condf rfl ?_ | ((first | refine qr ?_ | refine qd (by kernel_rfl) (by kernel_rfl) ?_); simp only [go_sem, jE, reduceIte, jA, jM, jS, jL, jD, jB, h1]) | refine dk (by kernel_rfl) ?_ | (refine qx (call_L (N' := [1, 4]) (L := []) (string_ac (adr w 0) A.letters) rfl (.cons (.nm rfl) (.nil)) (by decide) (by decide) (by decide) (by simp only [go_sem, jE, reduceIte, jA, jM, jS, jL, jD, jB, h1]; first | done | rfl) (.inl rfl) rfl (by decide)) (by simp only [go_sem, jE, reduceIte, jA, jM, jS, jL, jD, jB, h1]; first | done | rfl) rfl (by simp only [go_sem, Nat.reduceLT]) ?_; simp only [go_sem, jE, reduceIte, jA, jM, jS, jL, jD, jB, h1]) | (refine qx (call_L (N' := [2, 5]) (L := []) (string_ac (adr w 0) A.more) rfl (.cons (.nm rfl) (.nil)) (by decide) (by decide) (by decide) (by simp only [go_sem, jE, reduceIte, jA, jM, jS, jL, jD, jB, h1]; first | done | rfl) (.inl rfl) rfl (by decide)) (by simp only [go_sem, jE, reduceIte, jA, jM, jS, jL, jD, jB, h1]; first | done | rfl) rfl (by simp only [go_sem, Nat.reduceLT]) ?_; simp only [go_sem, jE, reduceIte, jA, jM, jS, jL, jD, jB, h1]) | (refine qx (call_L (N' := [3, 6]) (L := []) (string_ac (adr w 0) A.first) rfl (.cons (.nm rfl) (.nil)) (by decide) (by decide) (by decide) (by simp only [go_sem, jE, reduceIte, jA, jM, jS, jL, jD, jB, h1]; first | done | rfl) (.inl rfl) rfl (by decide)) (by simp only [go_sem, jE, reduceIte, jA, jM, jS, jL, jD, jB, h1]; first | done | rfl) rfl (by simp only [go_sem, Nat.reduceLT]) ?_; simp only [go_sem, jE, reduceIte, jA, jM, jS, jL, jD, jB, h1]))
    rw [← e1, ← e2, ← e3, ← e4]
    exact Aw_ret (retL (M := [9]) (.inl rfl) (by simp only [go_sem, jE, reduceIte, jA, jM, jS, jL, jD, jB]; first | done | rfl) rfl rfl (by rfl) (by simp only [go_sem, jE, reduceIte, jA, jM, jS, jL, jD, jB]; first | done | rfl | (and_intros <;> rfl)) (by decide) (by unfold idM; decide))
def ksAt (ks : List ByteArray) (i : Nat) : Bool := match ks[i]? with
  | some k => keyOk k && (match i with
    | 0 => true
    | j + 1 => match ks[j]? with
      | some p => klt p k
      | none => true)
  | none => true
def keysOkM (ks : List ByteArray) : Bool := allI ks.length (ksAt ks) && decide (ks.length ≤ 24)
structure SmS (ks : List ByteArray) : Prop where
  len : ks.length ≤ 1099511627776
  key : ∀ k ∈ ks, smK k
theorem ksOk_bad {ks : List ByteArray} {i : Nat} (hi : i < ks.length) (h : ksAt ks i = false) : keysOkM ks = false := by unfold keysOkM; rw [allI_f hi h]; rfl
theorem ksOk_end {ks : List ByteArray} (h : ∀ j, j < ks.length → ksAt ks j = true) : keysOkM ks = decide ((ks.length : Int) ≤ 24) := by
  unfold keysOkM; rw [allI_t h, Bool.true_and]; exact decide_eq_decide.2 (by omega)
theorem kle_not (k p : ByteArray) : (klt k p || decide (k = p)) = !klt p k := by
  cases h : klt p k with
  | true =>
    have h1 : klt k p = false := by
      cases h2 : klt k p with
      | false => rfl
      | true => have := klt_trans h h2; rw [klt_irrefl] at this; cases this
    have h3 : k ≠ p := fun e => by rw [e, klt_irrefl] at h; cases h
    simp [h1, h3]
  | false =>
    by_cases e : k = p
    · simp [e]
    · simp [klt_total h (fun x => e x.symm)]
theorem keysOk_ac (ks : List ByteArray) (hs : SmS ks) : AC Tryz.prog 132 [strsT ks] noHp 0 ⟨.t (bT (keysOkM ks)), noHp, 0⟩ := by
  refine AC_of Tryz.func132 rfl Tryz.ntmps132 Tryz.results132 (by kernel_rfl) rfl ?_
  simp only [List.zipIdx, List.map, Nat.zero_add, Nat.reduceAdd]
  repeat (first | apply Aw_seq | apply Aw_block | apply Aw_skip | apply Aw_exit | refine Aw_condt rfl ?_ | refine Aw_condf rfl ?_ | ((first | refine qr ?_ | refine qd (by kernel_rfl) (by kernel_rfl) ?_); simp only [go_sem, jE, reduceIte, jA, jM, jS, jL, jD, jB]) | refine dk (by kernel_rfl) ?_)
  refine Aw.rw (rw0 (l' := [(7, .t (iT (0 : Nat))), (6, .t (iT ks.length)), (5, .t (strsT ks)), (0, .t (strsT ks))]) (n' := 0) (by repeat (first | exact trivial | refine ⟨rfl, rfl, ?_⟩))) ?_
  refine Aw_loop0 (ι := { i : Nat // i ≤ ks.length ∧ (∀ j, j < i → ksAt ks j = true) }) (fun q => [(7, .t (iT (q.1 : Nat))), (6, .t (iT ks.length)), (5, .t (strsT ks)), (0, .t (strsT ks))]) (fun q => ks.length - q.1) ⟨0, Nat.zero_le _, fun j hj => absurd hj (by omega)⟩ ?_
  rintro ⟨i, hi, hp⟩
  dsimp only
  by_cases hlt : i < ks.length
  · have h1 : (i : Int) < (ks.length : Int) := by omega
    have h2 := wrap_succ hlt hs.len
    obtain ⟨e, hx⟩ : ∃ e, ks[i]? = some e := ⟨_, List.getElem?_eq_getElem hlt⟩
    have he := hs.key e (List.mem_of_getElem? hx)
    cases c1 : keyOk e
    · repeat (first | apply Aw_seq | apply Aw_block | apply Aw_skip | apply Aw_exit | refine Aw_condt rfl ?_ | refine Aw_condf rfl ?_ | ((first | refine qr ?_ | refine qd (by kernel_rfl) (by kernel_rfl) ?_); simp only [go_sem, jE, reduceIte, jA, jM, jS, jL, jD, jB, h1, hx, c1]) | refine dk (by kernel_rfl) ?_ | (refine qp (keyOk_ac _ he) (by simp only [go_sem, jE, reduceIte, jA, jM, jS, jL, jD, jB, h1, hx, c1]; first | done | rfl) rfl (by simp only [go_sem, Nat.reduceLT]) rfl rfl ?_; simp only [go_sem, jE, reduceIte, jA, jM, jS, jL, jD, jB, h1, hx, c1]))
      exact Aw_ret (ret0 (.inl rfl) (by simp only [go_sem, jE, reduceIte, jA, jM, jS, jL, jD, jB]; rfl) (by rw [ksOk_bad hlt (by simp [ksAt, hx, c1])]) rfl)
    · rcases i with _ | j
      · have h5 : decide ((0 : Int) < ((0 : Nat) : Int)) = false := rfl
        repeat (first | apply Aw_seq | apply Aw_block | apply Aw_skip | apply Aw_exit | refine Aw_condt rfl ?_ | refine Aw_condf rfl ?_ | ((first | refine qr ?_ | refine qd (by kernel_rfl) (by kernel_rfl) ?_); simp only [go_sem, jE, reduceIte, jA, jM, jS, jL, jD, jB, h1, hx, c1, h2, h5]) | refine dk (by kernel_rfl) ?_ | (refine qp (keyOk_ac _ he) (by simp only [go_sem, jE, reduceIte, jA, jM, jS, jL, jD, jB, h1, hx, c1, h2, h5]; first | done | rfl) rfl (by simp only [go_sem, Nat.reduceLT]) rfl rfl ?_; simp only [go_sem, jE, reduceIte, jA, jM, jS, jL, jD, jB, h1, hx, c1, h2, h5]))
        exact ⟨⟨0 + 1, by omega, upto_succ hp (by simp [ksAt, hx, c1])⟩, (by simp only []; omega), rw0 (by repeat (first | exact trivial | refine ⟨rfl, rfl, ?_⟩))⟩
      · have h5 : decide ((0 : Int) < ((j + 1 : Nat) : Int)) = true := decide_eq_true (by omega)
        have h6 := wrap_pred (i := j) (by omega) hs.len
        obtain ⟨p, hy⟩ : ∃ e, ks[j]? = some e := ⟨_, List.getElem?_eq_getElem (by omega)⟩
        have hle := kle_not e p
        cases c2 : klt p e
        · repeat (first | apply Aw_seq | apply Aw_block | apply Aw_skip | apply Aw_exit | refine Aw_condt rfl ?_ | refine Aw_condf rfl ?_ | ((first | refine qr ?_ | refine qd (by kernel_rfl) (by kernel_rfl) ?_); simp only [go_sem, jE, reduceIte, jA, jM, jS, jL, jD, jB, h1, hx, c1, h2, h5, h6, hy, hle, c2]) | refine dk (by kernel_rfl) ?_ | (refine qp (keyOk_ac _ he) (by simp only [go_sem, jE, reduceIte, jA, jM, jS, jL, jD, jB, h1, hx, c1, h2, h5, h6, hy, hle, c2]; first | done | rfl) rfl (by simp only [go_sem, Nat.reduceLT]) rfl rfl ?_; simp only [go_sem, jE, reduceIte, jA, jM, jS, jL, jD, jB, h1, hx, c1, h2, h5, h6, hy, hle, c2]))
          exact Aw_ret (ret0 (.inl rfl) (by simp only [go_sem, jE, reduceIte, jA, jM, jS, jL, jD, jB]; rfl) (by rw [ksOk_bad hlt (by simp [ksAt, hx, hy, c1, c2])]) rfl)
        · repeat (first | apply Aw_seq | apply Aw_block | apply Aw_skip | apply Aw_exit | refine Aw_condt rfl ?_ | refine Aw_condf rfl ?_ | ((first | refine qr ?_ | refine qd (by kernel_rfl) (by kernel_rfl) ?_); simp only [go_sem, jE, reduceIte, jA, jM, jS, jL, jD, jB, h1, hx, c1, h2, h5, h6, hy, hle, c2]) | refine dk (by kernel_rfl) ?_ | (refine qp (keyOk_ac _ he) (by simp only [go_sem, jE, reduceIte, jA, jM, jS, jL, jD, jB, h1, hx, c1, h2, h5, h6, hy, hle, c2]; first | done | rfl) rfl (by simp only [go_sem, Nat.reduceLT]) rfl rfl ?_; simp only [go_sem, jE, reduceIte, jA, jM, jS, jL, jD, jB, h1, hx, c1, h2, h5, h6, hy, hle, c2]))
          exact ⟨⟨j + 1 + 1, by omega, upto_succ hp (by simp [ksAt, hx, hy, c1, c2])⟩, (by simp only []; omega), rw0 (by repeat (first | exact trivial | refine ⟨rfl, rfl, ?_⟩))⟩
  · have h1 : ¬ (i : Int) < (ks.length : Int) := by omega
    have he : i = ks.length := by omega
    subst he
    repeat (first | apply Aw_seq | apply Aw_block | apply Aw_skip | apply Aw_exit | refine Aw_condt rfl ?_ | refine Aw_condf rfl ?_ | ((first | refine qr ?_ | refine qd (by kernel_rfl) (by kernel_rfl) ?_); simp only [go_sem, jE, reduceIte, jA, jM, jS, jL, jD, jB, h1]) | refine dk (by kernel_rfl) ?_)
    exact Aw_ret (ret0 (.inl rfl) (by simp only [go_sem, jE, reduceIte, jA, jM, jS, jL, jD, jB]; rfl) (by rw [ksOk_end hp]) rfl)
theorem skeysOk_ac (ks : List ByteArray) (hs : SmS ks) : AC Tryz.prog 128 [strsT ks] noHp 0 ⟨.t (bT (keysOkM ks)), noHp, 0⟩ := by
  refine AC_of Tryz.func128 rfl Tryz.ntmps128 Tryz.results128 (by kernel_rfl) rfl ?_
  simp only [List.zipIdx, List.map, Nat.zero_add, Nat.reduceAdd]
  repeat (first | apply Aw_seq | apply Aw_block | apply Aw_skip | apply Aw_exit | refine Aw_condt rfl ?_ | refine Aw_condf rfl ?_ | ((first | refine qr ?_ | refine qd (by kernel_rfl) (by kernel_rfl) ?_); simp only [go_sem, jE, reduceIte, jA, jM, jS, jL, jD, jB]) | refine dk (by kernel_rfl) ?_)
  refine Aw.rw (rw0 (l' := [(3, .t (iT (0 : Nat))), (0, .t (strsT ks))]) (n' := 0) (by repeat (first | exact trivial | refine ⟨rfl, rfl, ?_⟩))) ?_
  refine Aw_loop0 (ι := { i : Nat // i ≤ ks.length ∧ (∀ j, j < i → ksAt ks j = true) }) (fun q => [(3, .t (iT (q.1 : Nat))), (0, .t (strsT ks))]) (fun q => ks.length - q.1) ⟨0, Nat.zero_le _, fun j hj => absurd hj (by omega)⟩ ?_
  rintro ⟨i, hi, hp⟩
  dsimp only
  by_cases hlt : i < ks.length
  · have h1 : (i : Int) < (ks.length : Int) := by omega
    have h2 := wrap_succ hlt hs.len
    obtain ⟨e, hx⟩ : ∃ e, ks[i]? = some e := ⟨_, List.getElem?_eq_getElem hlt⟩
    have he := hs.key e (List.mem_of_getElem? hx)
    cases c1 : keyOk e
    · repeat (first | apply Aw_seq | apply Aw_block | apply Aw_skip | apply Aw_exit | refine Aw_condt rfl ?_ | refine Aw_condf rfl ?_ | ((first | refine qr ?_ | refine qd (by kernel_rfl) (by kernel_rfl) ?_); simp only [go_sem, jE, reduceIte, jA, jM, jS, jL, jD, jB, h1, hx, c1]) | refine dk (by kernel_rfl) ?_ | (refine qp (skeyOk_ac _ he) (by simp only [go_sem, jE, reduceIte, jA, jM, jS, jL, jD, jB, h1, hx, c1]; first | done | rfl) rfl (by simp only [go_sem, Nat.reduceLT]) rfl rfl ?_; simp only [go_sem, jE, reduceIte, jA, jM, jS, jL, jD, jB, h1, hx, c1]))
      exact Aw_ret (ret0 (.inl rfl) (by simp only [go_sem, jE, reduceIte, jA, jM, jS, jL, jD, jB]; rfl) (by rw [ksOk_bad hlt (by simp [ksAt, hx, c1])]) rfl)
    · rcases i with _ | j
      · have h5 : decide ((0 : Int) < ((0 : Nat) : Int)) = false := rfl
        repeat (first | apply Aw_seq | apply Aw_block | apply Aw_skip | apply Aw_exit | refine Aw_condt rfl ?_ | refine Aw_condf rfl ?_ | ((first | refine qr ?_ | refine qd (by kernel_rfl) (by kernel_rfl) ?_); simp only [go_sem, jE, reduceIte, jA, jM, jS, jL, jD, jB, h1, hx, c1, h2, h5]) | refine dk (by kernel_rfl) ?_ | (refine qp (skeyOk_ac _ he) (by simp only [go_sem, jE, reduceIte, jA, jM, jS, jL, jD, jB, h1, hx, c1, h2, h5]; first | done | rfl) rfl (by simp only [go_sem, Nat.reduceLT]) rfl rfl ?_; simp only [go_sem, jE, reduceIte, jA, jM, jS, jL, jD, jB, h1, hx, c1, h2, h5]))
        exact ⟨⟨0 + 1, by omega, upto_succ hp (by simp [ksAt, hx, c1])⟩, (by simp only []; omega), rw0 (by repeat (first | exact trivial | refine ⟨rfl, rfl, ?_⟩))⟩
      · have h5 : decide ((0 : Int) < ((j + 1 : Nat) : Int)) = true := decide_eq_true (by omega)
        have h6 := wrap_pred (i := j) (by omega) hs.len
        obtain ⟨p, hy⟩ : ∃ e, ks[j]? = some e := ⟨_, List.getElem?_eq_getElem (by omega)⟩
        cases c2 : klt p e
        · repeat (first | apply Aw_seq | apply Aw_block | apply Aw_skip | apply Aw_exit | refine Aw_condt rfl ?_ | refine Aw_condf rfl ?_ | ((first | refine qr ?_ | refine qd (by kernel_rfl) (by kernel_rfl) ?_); simp only [go_sem, jE, reduceIte, jA, jM, jS, jL, jD, jB, h1, hx, c1, h2, h5, h6, hy, c2]) | refine dk (by kernel_rfl) ?_ | (refine qp (skeyOk_ac _ he) (by simp only [go_sem, jE, reduceIte, jA, jM, jS, jL, jD, jB, h1, hx, c1, h2, h5, h6, hy, c2]; first | done | rfl) rfl (by simp only [go_sem, Nat.reduceLT]) rfl rfl ?_; simp only [go_sem, jE, reduceIte, jA, jM, jS, jL, jD, jB, h1, hx, c1, h2, h5, h6, hy, c2]))
          exact Aw_ret (ret0 (.inl rfl) (by simp only [go_sem, jE, reduceIte, jA, jM, jS, jL, jD, jB]; rfl) (by rw [ksOk_bad hlt (by simp [ksAt, hx, hy, c1, c2])]) rfl)
        · repeat (first | apply Aw_seq | apply Aw_block | apply Aw_skip | apply Aw_exit | refine Aw_condt rfl ?_ | refine Aw_condf rfl ?_ | ((first | refine qr ?_ | refine qd (by kernel_rfl) (by kernel_rfl) ?_); simp only [go_sem, jE, reduceIte, jA, jM, jS, jL, jD, jB, h1, hx, c1, h2, h5, h6, hy, c2]) | refine dk (by kernel_rfl) ?_ | (refine qp (skeyOk_ac _ he) (by simp only [go_sem, jE, reduceIte, jA, jM, jS, jL, jD, jB, h1, hx, c1, h2, h5, h6, hy, c2]; first | done | rfl) rfl (by simp only [go_sem, Nat.reduceLT]) rfl rfl ?_; simp only [go_sem, jE, reduceIte, jA, jM, jS, jL, jD, jB, h1, hx, c1, h2, h5, h6, hy, c2]))
          exact ⟨⟨j + 1 + 1, by omega, upto_succ hp (by simp [ksAt, hx, hy, c1, c2])⟩, (by simp only []; omega), rw0 (by repeat (first | exact trivial | refine ⟨rfl, rfl, ?_⟩))⟩
  · have h1 : ¬ (i : Int) < (ks.length : Int) := by omega
    have he : i = ks.length := by omega
    subst he
    repeat (first | apply Aw_seq | apply Aw_block | apply Aw_skip | apply Aw_exit | refine Aw_condt rfl ?_ | refine Aw_condf rfl ?_ | ((first | refine qr ?_ | refine qd (by kernel_rfl) (by kernel_rfl) ?_); simp only [go_sem, jE, reduceIte, jA, jM, jS, jL, jD, jB, h1]) | refine dk (by kernel_rfl) ?_)
    exact Aw_ret (ret0 (.inl rfl) (by simp only [go_sem, jE, reduceIte, jA, jM, jS, jL, jD, jB]; rfl) (by rw [ksOk_end hp]) rfl)
theorem ksOk_iff {ks : List ByteArray} (h : keysOkM ks = true) : ks.length ≤ 24 ∧ Fork (ks, 0) ∧ SmS ks := by
  unfold keysOkM at h
  rw [Bool.and_eq_true] at h
  have h1 := allI_iff.1 h.1
  have hl : ks.length ≤ 24 := by simpa using h.2
  have hk : ∀ k ∈ ks, keyOk k = true := fun k hk => by
    obtain ⟨i, hi⟩ := List.mem_iff_getElem?.1 hk
    have := h1 i (List.getElem?_eq_some_iff.1 hi).1
    unfold ksAt at this; rw [hi] at this; simp at this; exact this.1
  have hadj : ∀ j p k, ks[j]? = some p → ks[j + 1]? = some k → klt p k = true := fun j p k hp hk => by
    have := h1 (j + 1) (List.getElem?_eq_some_iff.1 hk).1
    unfold ksAt at this; rw [hk] at this; simp [hp] at this; exact this.2
  have hord : ks.Pairwise fun a b => klt a b = true := by
    rw [List.pairwise_iff_getElem]
    intro i j hi hj hij
    have key : ∀ d i (h1 : i < ks.length) (h2 : i + d + 1 < ks.length), klt ks[i] ks[i + d + 1] = true := by
      intro d
      induction d with
      | zero => intro i h1 h2; exact hadj i _ _ (List.getElem?_eq_getElem h1) (List.getElem?_eq_getElem h2)
      | succ d ih =>
        intro i h1 h2
        exact klt_trans (ih i h1 (by omega)) (hadj (i + d + 1) _ _ (List.getElem?_eq_getElem (by omega)) (List.getElem?_eq_getElem h2))
    have := key (j - i - 1) i hi (by omega)
    simpa [show i + (j - i - 1) + 1 = j by omega] using this
  refine ⟨hl, ⟨by simp, hord, fun k hkm => ⟨hk k hkm, Nat.zero_le _⟩, fun a _ b _ => by simp⟩, ⟨by omega, fun k hkm => by have := keyOk_size (hk k hkm); unfold smK; omega⟩⟩
/-- A sieve. -/
structure Sve where
  letters : ByteArray
  more : ByteArray
  first : ByteArray
  rests : List ByteArray
  keep : Int
def zSve : Sve := ⟨zs, zs, zs, [], 0⟩
def sieveM (keys : List ByteArray) (keep : Int) : Option Sve := if keysOkM keys = true ∧ inB 0 keep 5 = true then
  let T := bfsF keep.toNat [(keys, 0)]
  some ⟨⟨T.letters.toArray⟩, ⟨T.more.toArray⟩, ⟨T.first.toArray⟩, T.rests, keep⟩ else none
abbrev sveT (s : Sve) (r : CV) : TV := .agg [.d (.s (.string s.letters)), .d (.s (.string s.more)), .d (.s (.string s.first)), r, .d (.s (.int .i64 s.keep))]
theorem sieve_ac (keys : List ByteArray) (keep : Int) (hs : SmS keys) : AC Tryz.prog 94 [strsT keys, iT keep] noHp 0 ⟨.tup [sveT ((sieveM keys keep).getD zSve) (.h 0), bT (sieveM keys keep).isSome], hpL [some (kRow ((sieveM keys keep).getD zSve).rests)], 1⟩ := by
  refine AC_of Tryz.func94 rfl Tryz.ntmps94 Tryz.results94 (by kernel_rfl) rfl ?_
  simp only [List.zipIdx, List.map, Nat.zero_add, Nat.reduceAdd]
  cases c1 : keysOkM keys
  · repeat (first | apply Aw_seq | apply Aw_block | apply Aw_skip | apply Aw_exit | refine Aw_condt rfl ?_ | refine Aw_condf rfl ?_ | ((first | refine qr ?_ | refine qd (by kernel_rfl) (by kernel_rfl) ?_); simp only [go_sem, jE, reduceIte, jA, jM, jS, jL, jD, jB, c1]) | refine dk (by kernel_rfl) ?_ | (refine qp (keysOk_ac _ hs) (by simp only [go_sem, jE, reduceIte, jA, jM, jS, jL, jD, jB, c1]; first | done | rfl) rfl (by simp only [go_sem, Nat.reduceLT]) rfl rfl ?_; simp only [go_sem, jE, reduceIte, jA, jM, jS, jL, jD, jB, c1]))
    have e : sieveM keys keep = none := by unfold sieveM; simp [c1]
    rw [e]
    refine Aw.ownC (m := 0) (i := 3) (e := 9) (j := 1) rfl rfl (by decide) (by simp only [Nat.reduceAdd]; rfl) rfl ?_
    exact Aw_ret (retL (M := [9]) (.inl rfl) (by simp only [go_sem, jE, reduceIte, jA, jM, jS, jL, jD, jB]; first | done | rfl) rfl rfl (by rfl) (by simp only [go_sem, jE, reduceIte, jA, jM, jS, jL, jD, jB, zSve, Option.getD_none]; first | done | rfl | (and_intros <;> rfl)) (by decide) (by unfold idM; decide))
  · cases c2 : inB 0 keep 5
    · repeat (first | apply Aw_seq | apply Aw_block | apply Aw_skip | apply Aw_exit | refine Aw_condt rfl ?_ | refine Aw_condf rfl ?_ | ((first | refine qr ?_ | refine qd (by kernel_rfl) (by kernel_rfl) ?_); simp only [go_sem, jE, reduceIte, jA, jM, jS, jL, jD, jB, c1, c2]) | refine dk (by kernel_rfl) ?_ | (refine qp (keysOk_ac _ hs) (by simp only [go_sem, jE, reduceIte, jA, jM, jS, jL, jD, jB, c1, c2]; first | done | rfl) rfl (by simp only [go_sem, Nat.reduceLT]) rfl rfl ?_; simp only [go_sem, jE, reduceIte, jA, jM, jS, jL, jD, jB, c1, c2]) | (refine qp (isKeep_ac _) (by simp only [go_sem, jE, reduceIte, jA, jM, jS, jL, jD, jB, c1, c2]; first | done | rfl) rfl (by simp only [go_sem, Nat.reduceLT]) rfl rfl ?_; simp only [go_sem, jE, reduceIte, jA, jM, jS, jL, jD, jB, c1, c2]))
      have e : sieveM keys keep = none := by unfold sieveM; simp [c2]
      rw [e]
      refine Aw.ownC (m := 0) (i := 3) (e := 9) (j := 1) rfl rfl (by decide) (by simp only [Nat.reduceAdd]; rfl) rfl ?_
      exact Aw_ret (retL (M := [11]) (.inl rfl) (by simp only [go_sem, jE, reduceIte, jA, jM, jS, jL, jD, jB]; first | done | rfl) rfl rfl (by rfl) (by simp only [go_sem, jE, reduceIte, jA, jM, jS, jL, jD, jB, zSve, Option.getD_none]; first | done | rfl | (and_intros <;> rfl)) (by decide) (by unfold idM; decide))
    · obtain ⟨kp, rfl⟩ : ∃ n : Nat, keep = n := ⟨keep.toNat, by unfold inB at c2; simp at c2; omega⟩
      obtain ⟨hl, hf, _⟩ := ksOk_iff c1
      have hk5 : kp ≤ 5 := by unfold inB at c2; simp at c2; omega
      have e : sieveM keys kp = some ⟨⟨(bfsF kp [(keys, 0)]).letters.toArray⟩, ⟨(bfsF kp [(keys, 0)]).more.toArray⟩, ⟨(bfsF kp [(keys, 0)]).first.toArray⟩, (bfsF kp [(keys, 0)]).rests, kp⟩ := by unfold sieveM; rw [if_pos ⟨c1, c2⟩]; rfl
      rw [e]
      repeat (first | apply Aw_seq | apply Aw_block | apply Aw_skip | apply Aw_exit | refine Aw_condt rfl ?_ | refine Aw_condf rfl ?_ | ((first | refine qr ?_ | refine qd (by kernel_rfl) (by kernel_rfl) ?_); simp only [go_sem, jE, reduceIte, jA, jM, jS, jL, jD, jB, c1, c2]) | refine dk (by kernel_rfl) ?_ | (refine qp (keysOk_ac _ hs) (by simp only [go_sem, jE, reduceIte, jA, jM, jS, jL, jD, jB, c1, c2]; first | done | rfl) rfl (by simp only [go_sem, Nat.reduceLT]) rfl rfl ?_; simp only [go_sem, jE, reduceIte, jA, jM, jS, jL, jD, jB, c1, c2]) | (refine qp (isKeep_ac _) (by simp only [go_sem, jE, reduceIte, jA, jM, jS, jL, jD, jB, c1, c2]; first | done | rfl) rfl (by simp only [go_sem, Nat.reduceLT]) rfl rfl ?_; simp only [go_sem, jE, reduceIte, jA, jM, jS, jL, jD, jB, c1, c2]) | (refine qx (call_N (L := []) (sieveOf_ac keys kp hf hl hk5) rfl (.cons (.nm rfl) (.cons (.nm rfl) (.nil))) (.inl rfl) rfl) (by simp only [go_sem, jE, reduceIte, jA, jM, jS, jL, jD, jB, c1, c2]; first | done | rfl) rfl (by simp only [go_sem, Nat.reduceLT]) ?_; simp only [go_sem, jE, reduceIte, jA, jM, jS, jL, jD, jB, c1, c2]))
      exact Aw_ret (retL (M := [10]) (.inl rfl) (by simp only [go_sem, jE, reduceIte, jA, jM, jS, jL, jD, jB]; first | done | rfl) rfl rfl (by rfl) (by simp only [go_sem, jE, reduceIte, jA, jM, jS, jL, jD, jB, Option.getD_some]; first | done | rfl | (and_intros <;> rfl)) (by decide) (by unfold idM; decide))
section
variable {P : Program} {f : FuncId} {args : List TV} {hp : Hp} {k : Nat}
theorem settle_good {c : Cx} {hp hp' : Hp} {L : List Nat} (good : Good c hp) (hh : ∀ m o', hp' m = some o' → m ∉ L ∧ ∃ o, hp m = some o ∧ (o' = o ∨ SetO hp L o o')) : Good (c.stl hp L) hp' ∧ Tr c hp (c.stl hp L) hp' := by
  have hobj : ∀ m o', hp' m = some o' → m ∉ L ∧ ∃ o, hp m = some o ∧ SetO hp L o o' := fun m o' hm => by
    obtain ⟨h1, o, h2, h3⟩ := hh m o' hm
    refine ⟨h1, o, h2, ?_⟩
    rcases h3 with rfl | h3
    · exact SetO.refl _
    · exact h3
  have hblk : ∀ m o o', SetO hp L o o' → blk (c.stl hp L) m o' = blk c m o := fun m o o' ho => by
    unfold blk; rw [ho.row]; rfl
  have hown : ∀ b, Owned (c.stl hp L) hp' b → ∃ m o, m ∉ L ∧ hp m = some o ∧ blk c m o = some b := fun b hb => by
    obtain ⟨m, o', h1, h2⟩ := hb
    obtain ⟨h3, o, h4, h5⟩ := hobj m o' h1
    rw [hblk m o o' h5] at h2
    exact ⟨m, o, h3, h4, h2⟩
  refine ⟨⟨fun m o' hm => ?_, fun m o' hm => ?_, fun b hb hs => ?_, fun m o1 m' o2 b h1 h2 h3 h4 => ?_, fun b hs => ?_⟩, ⟨rfl, rfl, rfl, Nat.le_refl _, fun _ _ _ => rfl, fun m hm => ⟨hm, rfl, rfl, rfl⟩, fun _ h => .inl h, fun b hs => ?_, fun b hb => ?_⟩⟩
  · obtain ⟨_, o, h2, _⟩ := hobj m o' hm; exact good.dom m o h2
  · obtain ⟨_, o, h2, h3⟩ := hobj m o' hm; exact SetO.rep good h3 (good.obj m o h2)
  · obtain ⟨m, o, h1, h2, h3⟩ := hown b hb
    rcases hs with hs | ⟨m', hm', o', h4, h5⟩
    · exact good.own b ⟨m, o, h2, h3⟩ hs
    · have := good.inj m o m' o' b h2 h4 h3 h5; exact h1 (this ▸ hm')
  · obtain ⟨_, p1, q1, q2⟩ := hobj m o1 h1
    obtain ⟨_, p2, q3, q4⟩ := hobj m' o2 h2
    rw [hblk m p1 o1 q2] at h3
    rw [hblk m' p2 o2 q4] at h4
    exact good.inj m p1 m' p2 b q1 q3 h3 h4
  · rcases hs with hs | ⟨m', _, o', h4, h5⟩
    · exact good.lt b hs
    · exact good.owned_lt ⟨m', o', h4, h5⟩
  · rcases hs with hs | ⟨m', _, o', h4, h5⟩
    · exact .inl hs
    · exact .inr (.inl ⟨m', o', h4, h5⟩)
  · obtain ⟨m, o, _, h2, h3⟩ := hown b hb
    exact .inl ⟨m, o, h2, h3⟩
/-- Rows of a result, settled. -/
theorem AC.settle {x y : AV} {hp1 hp2 : Hp} {n n' : Nat} {L : List Nat} (h : AC P f args hp k ⟨x, hp1, n⟩) (hr : SetA hp1 L x y) (hh : ∀ m o', hp2 m = some o' → m ∉ L ∧ ∃ o, hp1 m = some o ∧ (o' = o ∨ SetO hp1 L o o')) (hn : n ≤ n') : AC P f args hp k ⟨y, hp2, n'⟩ := by
  refine ⟨h.1, fun c vs g hU hA => Calls.mono (h.2 c vs g hU hA) fun e w' => ?_⟩
  rintro ⟨v, c', he, rfl, t, g', r', u⟩
  obtain ⟨g2, t2⟩ := settle_good g' hh
  exact ⟨v, c'.stl hp1 L, he, rfl, t.trans t2, g2, SetA.rep g' hr r', fun m hm => Nat.lt_of_lt_of_le (u m hm) hn⟩
/-- A result under new names. -/
theorem AC.sel {x y : AV} {hp1 hp2 : Hp} {n n' : Nat} {M : List Nat} (h : AC P f args hp k ⟨x, hp1, n⟩) (hx : x = y.ren (pin M)) (hb : y.bd M.length = true) (hs : HpSel M hp1 hp2) (hn : M.length ≤ n') (hk : ∀ m, m < k → m < M.length ∧ pin M m = m) : AC P f args hp k ⟨y, hp2, n'⟩ := by
  refine ⟨h.1, fun c vs g hU hA => Calls.mono (h.2 c vs g hU hA) fun e w' => ?_⟩
  rintro ⟨v, c', he, rfl, t, g', r', u⟩
  have t2 := tk_sel (k := k) (c := c') hs hk
  have t3 := (t.tk (k := k)).trans t2
  refine ⟨v, c'.sel M, he, rfl, ⟨t3.os, t3.tape, t3.output, t3.size, t3.keep, fun m hm => t3.names m (hU m hm) hm, t3.sup, t3.sub, t3.own⟩, good_sel g' hs, ?_, fun m hm => Nat.lt_of_lt_of_le hm.1 hn⟩
  simp only [] at r'
  rw [hx] at r'
  exact RepA.down sel_ren (fun b hb => hb) (fun m hm hu => ⟨hm, hu⟩) hb r'
/-- All rows of a result, settled. -/
theorem AC.settle0 {x y : AV} {hp1 : Hp} {n : Nat} (L : List Nat) (h : AC P f args noHp 0 ⟨x, hp1, n⟩) (hr : SetA hp1 L x y) (hb : y.bd 0 = true) : AC P f args noHp 0 ⟨y, noHp, 0⟩ :=
  AC.sel (M := []) (AC.settle h hr (hp2 := noHp) (fun m o' hm => by simp [noHp] at hm) (Nat.le_refl n)) (by rw [AV.ren_id (n := 0) (fun m hm => absurd hm (by omega)) hb]) hb hpSel_none (Nat.le_refl _) fun m hm => absurd hm (by omega)
theorem SetC.row0 {L : List Nat} {e k m : Nat} {ds : List (List D)} (h : hp m = some (dRow e k ds)) (hm : L.contains m = true) : SetC hp L (.h m) (.d (.rs k ds)) := SetC.row h (by simpa using hm)
/-- What is left of a heap when some rows are settled. -/
def SubL (L : List Nat) (i : Nat) : List (Option Obj) → List (Option Obj) → Prop
  | some o :: s, some o' :: s' => o = o' ∧ L.contains i = false ∧ SubL L (i + 1) s s'
  | _ :: s, none :: s' => SubL L (i + 1) s s'
  | _, [] => True
  | _, _ => False
theorem subL_get {L : List Nat} : ∀ {i : Nat} {os os' : List (Option Obj)}, SubL L i os os' → ∀ m o, hpL os' m = some o → L.contains (i + m) = false ∧ hpL os m = some o
  | i, some o :: s, some o' :: s', h, 0, q, hq => by
    rw [l_c0] at hq ⊢; obtain ⟨h1, h2, _⟩ := h; exact ⟨h2, by rw [h1]; exact hq⟩
  | i, some o :: s, some o' :: s', h, m + 1, q, hq => by
    rw [l_c1] at hq ⊢; have := subL_get h.2.2 m q hq; rw [show i + (m + 1) = i + 1 + m by omega]; exact this
  | i, o :: s, none :: s', h, 0, q, hq => by rw [l_c0] at hq; cases hq
  | i, some o :: s, none :: s', h, m + 1, q, hq => by
    rw [l_c1] at hq ⊢; have := subL_get (os := s) (os' := s') h m q hq; rw [show i + (m + 1) = i + 1 + m by omega]; exact this
  | i, none :: s, none :: s', h, m + 1, q, hq => by
    rw [l_c1] at hq ⊢; have := subL_get (os := s) (os' := s') h m q hq; rw [show i + (m + 1) = i + 1 + m by omega]; exact this
  | _, _, [], _, m, q, hq => by rw [l_n] at hq; cases hq
  | _, [], none :: _, h, _, _, _ => h.elim
  | _, [], some _ :: _, h, _, _, _ => h.elim
  | _, none :: _, some _ :: _, h, _, _, _ => h.elim
theorem Aw.setL {N : Nat} {x : Code} {Q : Exit → St → Prop} {l l' : List (Nat × AV)} {os os' : List (Option Obj)} {n n' : Nat} (L : List Nat) (h : ChkS L (hpL os) l l') (hs : SubL L 0 os os') (hn : n ≤ n') (q : Aw P N k x Q (S l' (hpL os') n')) : Aw P N k x Q (S l (hpL os) n) :=
  Aw.settle (stl_look h (fun m o' hm => by
    obtain ⟨h1, h2⟩ := subL_get hs m o' hm
    exact ⟨by simpa using h1, o', h2, .inl rfl⟩) hn) q
end
def bs (l : List UInt8) : ByteArray := ⟨l.toArray⟩
@[go_sem] theorem bs_1 (a : UInt8) : ({ data := #[a] } : ByteArray) = bs [a] := rfl
@[go_sem] theorem bs_app (a b : List UInt8) : bs a ++ bs b = bs (a ++ b) := by
  unfold bs
  apply ByteArray.ext
  rw [ByteArray.data_append]; simp
def labS (k : ByteArray) (d : Nat) : ByteArray := bs [lab k d]
@[go_sem] theorem r_labS (k : ByteArray) (d : Nat) : labS k d = bs [lab k d] := rfl
theorem bs_inj {a b : List UInt8} : bs a = bs b ↔ a = b := by
  unfold bs; simp
@[go_sem] theorem labS_eq (k x : ByteArray) (d e : Nat) : decide (bs [lab k d] = bs [lab x e]) = decide (lab k d = lab x e) := by
  apply decide_eq_decide.2; rw [bs_inj]; simp
/-- Texts that begin alike, one ahead of the other. -/
theorem lt_drop {α : Type} [LT α] [DecidableLT α] (irr : ∀ a : α, ¬ a < a) : ∀ {d : Nat} {a b : List α}, a.take d = b.take d → a < b → a.drop d < b.drop d
  | 0, a, b, _, h => h
  | d + 1, [], [], _, h => absurd h (by simp)
  | d + 1, [], b :: s, h, _ => by simp at h
  | d + 1, a :: r, [], h, _ => by simp at h
  | d + 1, a :: r, b :: s, h, k => by
    simp only [List.take_succ_cons, List.cons.injEq] at h
    obtain ⟨rfl, h⟩ := h
    rw [List.cons_lt_cons_iff] at k
    rcases k with k | ⟨_, k⟩
    · exact absurd k (irr _)
    · simpa using lt_drop irr h k
theorem lab_le {f : List ByteArray × Nat} (hf : Fork f) {a b : ByteArray} (ha : a ∈ f.1) (hb : b ∈ f.1) (h : klt a b = true) : (lab a f.2).toNat ≤ (lab b f.2).toNat := by
  obtain ⟨oa, da⟩ := hf.ok a ha
  obtain ⟨ob, db⟩ := hf.ok b hb
  have hal := hf.alike a ha b hb
  have hlt := (klt_iff a b).1 h
  rw [Go.ByteArray.toList_eq, Go.ByteArray.toList_eq] at hlt
  have hd := lt_drop (fun a => UInt8.lt_irrefl a) hal hlt
  have ea : a.size = a.data.toList.length := Array.length_toList.symm
  have eb : b.size = b.data.toList.length := Array.length_toList.symm
  by_cases e2 : b.size = f.2
  · rw [List.drop_eq_nil_of_le (by omega : b.data.toList.length ≤ f.2)] at hd
    exact absurd hd (by simp)
  · have hbl : 97 ≤ (lab b f.2).toNat := by unfold lab; rw [if_neg e2]; exact keyOk_let ob (by omega)
    by_cases e : a.size = f.2
    · have : lab a f.2 = 45 := by unfold lab; rw [if_pos e]
      rw [this]; have : (45 : UInt8).toNat = 45 := rfl; omega
    · rw [List.drop_eq_getElem_cons (by omega : f.2 < a.data.toList.length), List.drop_eq_getElem_cons (by omega : f.2 < b.data.toList.length), List.cons_lt_cons_iff] at hd
      have la : lab a f.2 = a.data.toList[f.2]'(by omega) := by
        unfold lab; rw [if_neg e, Array.getD_eq_getD_getElem?, Array.getElem?_eq_getElem (by show f.2 < a.size; omega)]; simp
      have lb : lab b f.2 = b.data.toList[f.2]'(by omega) := by
        unfold lab; rw [if_neg e2, Array.getD_eq_getD_getElem?, Array.getElem?_eq_getElem (by show f.2 < b.size; omega)]; simp
      rw [la, lb]
      rcases hd with hd | ⟨hd, _⟩
      · exact Nat.le_of_lt (UInt8.lt_iff_toNat_lt.1 hd)
      · rw [hd]; exact Nat.le_refl _
/-- The keys of one letter, one by one. -/
def grpAt (ks : List ByteArray) (d : Nat) (x : ByteArray) (j : Nat) : List ByteArray := match ks[j]? with
  | some k => if lab k d = lab x d then [k] else []
  | none => []
theorem grp_len (ks : List ByteArray) (d : Nat) (x : ByteArray) (j : Nat) : (grpAt ks d x j).length ≤ 1 := by
  unfold grpAt
  repeat' split
  all_goals simp
def grpF (d : Nat) : List ByteArray → List ByteArray
  | [] => []
  | x :: r => x :: r.takeWhile fun y => lab y d == lab x d
theorem filter_take {β : Type} (g : β → Nat) (m : Nat) : ∀ (l : List β), l.Pairwise (fun a b => g a ≤ g b) → (∀ b ∈ l, m ≤ g b) → l.filter (fun y => g y == m) = l.takeWhile (fun y => g y == m)
  | [], _, _ => rfl
  | a :: l, h, hm => by
    rw [List.pairwise_cons] at h
    by_cases e : g a = m
    · rw [List.filter_cons_of_pos (by simp [e]), List.takeWhile_cons_of_pos (by simp [e]), filter_take g m l h.2 fun b hb => hm b (by simp [hb])]
    · rw [List.filter_cons_of_neg (by simp [e]), List.takeWhile_cons_of_neg (by simp [e])]
      rw [List.filter_eq_nil_iff]
      intro b hb
      have h1 := h.1 b hb
      have h2 := hm a (by simp)
      simp; omega
theorem colI_flat {α β : Type} (g : α → List β) : ∀ (l : List α), colI l.length (fun j => (l[j]?).elim [] g) = l.flatMap g := by
  intro l
  have key : ∀ n, n ≤ l.length → colI n (fun j => (l[j]?).elim [] g) = (l.take n).flatMap g := by
    intro n
    induction n with
    | zero => intro _; rfl
    | succ n ih =>
      intro h
      rw [colI_succ, ih (by omega), List.take_succ, List.flatMap_append, List.getElem?_eq_getElem (by omega)]
      simp
  rw [key _ (Nat.le_refl _), List.take_length]
/-- In a fork the filter is the first run. -/
theorem grp_fork {f : List ByteArray × Nat} (hf : Fork f) {x : ByteArray} {r : List ByteArray} (he : f.1 = x :: r) : colI (x :: r).length (grpAt (x :: r) f.2 x) = grpF f.2 (x :: r) := by
  have e : (fun j => grpAt (x :: r) f.2 x j) = fun j => ((x :: r)[j]?).elim [] fun k => if lab k f.2 = lab x f.2 then [k] else [] := by
    funext j; unfold grpAt; cases (x :: r)[j]? <;> rfl
  rw [show grpAt (x :: r) f.2 x = _ from e, colI_flat]
  have e2 : ∀ l : List ByteArray, (l.flatMap fun k => if lab k f.2 = lab x f.2 then [k] else []) = l.filter fun k => (lab k f.2).toNat == (lab x f.2).toNat := by
    intro l
    induction l with
    | nil => rfl
    | cons k l ih =>
      rw [List.flatMap_cons, ih]
      by_cases h : lab k f.2 = lab x f.2
      · rw [if_pos h, List.filter_cons_of_pos (by simp [h])]; rfl
      · rw [if_neg h, List.filter_cons_of_neg (by simpa using fun e => h (UInt8.toNat_inj.1 e))]; rfl
  have ho := hf.ord
  rw [he] at ho
  have hmem : ∀ a ∈ x :: r, a ∈ f.1 := fun a ha => by rw [he]; exact ha
  rw [e2, filter_take (fun k : ByteArray => (lab k f.2).toNat) _ (x :: r)]
  · unfold grpF
    rw [List.takeWhile_cons_of_pos (by simp)]
    congr 1
    refine congrArg (fun p => r.takeWhile p) (funext fun y => ?_)
    by_cases h : lab y f.2 = lab x f.2
    · simp [h]
    · have h2 : ¬ (lab y f.2).toNat = (lab x f.2).toNat := fun e => h (UInt8.toNat_inj.1 e)
      rw [beq_eq_false_iff_ne.2 h, beq_eq_false_iff_ne.2 h2]
  · refine List.Pairwise.imp_of_mem ?_ ho
    intro a b ha hb h
    exact lab_le hf (hmem a ha) (hmem b hb) h
  · intro b hb
    rcases List.mem_cons.1 hb with rfl | hb'
    · exact Nat.le_refl _
    · exact lab_le hf (hmem x (by simp)) (hmem b hb) ((List.pairwise_cons.1 ho).1 b hb')
theorem spl_grp {d : Nat} {x : ByteArray} {r : List ByteArray} : spl d (x :: r) = grpF d (x :: r) :: spl d ((x :: r).drop (grpF d (x :: r)).length) := by
  rw [spl_cons]
  unfold grpF
  congr 1
  rw [List.length_cons, List.drop_succ_cons]
  congr 1
  have h := (List.takeWhile_append_dropWhile (p := fun y => lab y d == lab x d) (l := r))
  generalize r.takeWhile (fun y => lab y d == lab x d) = t at *
  generalize r.dropWhile (fun y => lab y d == lab x d) = w at *
  subst h; simp
/-- What is behind the first run is a fork again. -/
theorem Fork.drop {f : List ByteArray × Nat} (hf : Fork f) (n : Nat) : Fork (f.1.drop n, f.2) :=
  ⟨hf.dep, hf.ord.sublist (List.drop_sublist _ _), fun k hk => hf.ok k (List.mem_of_mem_drop hk), fun a ha b hb => hf.alike a (List.mem_of_mem_drop ha) b (List.mem_of_mem_drop hb)⟩
end Go.Proofs.YtimkdclalajadaaGreat.Ab
