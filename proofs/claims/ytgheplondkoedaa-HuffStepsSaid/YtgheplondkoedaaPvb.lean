import Derived.Test.YtgheplondkoedaaPva
namespace Go.Pv
set_option linter.unusedVariables false
open Go Go.RowKit

/-! ### The table of types -/
inductive Tk where
  | int (k : IntKind)
  | bool
  | str
  | slice (e : TypeId)
  | struct (fs : List (TypeId × Nat))
  | arr (n : Nat) (e : TypeId)
  | other
structure TI where
  k : Tk
  sz : Nat
  bytes : Nat
  zero : PV
  em : List (Option Cells)     -- of each cell: what a nil slice that stands there is made of
abbrev Ty := TypeId → Option TI

/-- A constant's PV; 'em' tells what kind of cells a nil slice would have. -/
def cst1 : Option Cells → Value → PV
  | em, .slice none 0 0 => .nil (em.getD (.rows 0 []))
  | _, .int k n => .int k n
  | _, .bool b => .bool b
  | _, .string s => .str s
  | _, .nilFunc => .nilf
  | _, _ => .any
def cstL : List (Option Cells) → List Value → List PV
  | _, [] => []
  | [], v :: vs => cst1 none v :: cstL [] vs
  | e :: es, v :: vs => cst1 e v :: cstL es vs
def cst (em : List (Option Cells)) : Value → PV
  | .agg cs => .agg (cstL em cs.toList)
  | v => cst1 (em.headD none) v

/-- A zero value: the PV and the value that it stands for, in every world. -/
def Zero (z : PV) (v : Value) : Prop := ∀ (c : Cx) (q : Bool), Rep c q z v

def aggD : TypeDesc → Bool
  | .struct _ | .array _ _ => true
  | _ => false
/-- A struct of numbers and truth values alone. -/
def plainF (T : Ty) (fs : List (TypeId × Nat)) : Bool := fs.all fun p => match T p.1 with
  | some ti => (match ti.k with
    | .int _ => true
    | .bool => true
    | _ => false)
  | none => false
structure TyOk (P : Program) (T : Ty) : Prop where
  em : ∀ t ti, T t = some ti → ∀ cs, some cs ∈ ti.em → cs.len = 0
  info : ∀ t ti, T t = some ti → ∃ i, P.info? t = some i ∧ i.size = ti.sz ∧ i.bytes = ti.bytes ∧ ∃ z, i.zero = some z ∧ Zero ti.zero z ∧ z.cells.size = ti.sz
  int : ∀ t ti k, T t = some ti → ti.k = .int k → P.underlying t = some (.int k) ∧ ti.sz = 1
  bool : ∀ t ti, T t = some ti → ti.k = .bool → P.underlying t = some .bool ∧ ti.sz = 1
  str : ∀ t ti, T t = some ti → ti.k = .str → P.underlying t = some .string ∧ ti.sz = 1
  slice : ∀ t ti e, T t = some ti → ti.k = .slice e → P.underlying t = some (.slice e) ∧ ti.sz = 1
  struct : ∀ t ti fs, T t = some ti → ti.k = .struct fs → ∃ F, P.underlying t = some (.struct F) ∧ F.toList.map (fun f => (f.type, f.offset)) = fs ∧ ∀ p ∈ fs, (T p.1).isSome = true
  arr : ∀ t ti n e, T t = some ti → ti.k = .arr n e → P.underlying t = some (.array n e)
  other : ∀ t ti, T t = some ti → ti.k = .other → ∃ d, P.underlying t = some d ∧ aggD d = false ∧ ti.sz = 1
  cmp : ∀ t ti fs, T t = some ti → ti.k = .struct fs → plainF T fs = true → ∃ F, P.underlying t = some (.struct F) ∧ F.toList.map (fun f => (f.type, f.offset)) = fs ∧ (∀ f ∈ F.toList, f.name ≠ "_") ∧ P.stoodInHeld t = false ∧ P.eqGuardType P.depth t = false

def Tk.agg : Tk → Bool
  | .struct _ | .arr _ _ => true
  | _ => false

/-- What an operation does to the blocks of the call's own. -/
abbrev Eff := List (Nat × Option Blk)
def put {α : Type} (s : Nat → α) (i : Nat) (v : α) : Nat → α := fun j => if i = j then v else s j
theorem put_same {α : Type} (s : Nat → α) (i : Nat) (v : α) : put s i v i = v := if_pos rfl
theorem put_ne {α : Type} (s : Nat → α) {i j : Nat} (v : α) (h : i ≠ j) : put s i v j = s j := if_neg h
theorem put_at {α : Type} (s : Nat → α) (i j : Nat) (v : α) : put s i v j = if i = j then v else s j := rfl
def Eff.on : Eff → (Nat → Option Blk) → Nat → Option Blk
  | [], H => H
  | (i, b) :: r, H => Eff.on r (put H i b)

def cellsOf : PV → Option (List PV)
  | .any => none
  | .opt _ _ => none
  | .tup _ => none
  | .agg cs => some cs
  | .asl _ _ _ => none
  | .yld _ => none
  | v => some [v]

/-- A cell may hold it: it is no aggregate, and it is known what it is. -/
def PV.one : PV → Bool
  | .any | .agg _ | .tup _ | .opt _ _ | .asl _ _ _ | .yld _ => false
  | _ => true

/-- A value of the type t as it stands at the element i, cell j. -/
def ldC (ti : TI) (cs : Cells) (i j : Nat) (K : PV → Prop) : Prop :=
  if ti.k.agg then match cs with
    | .rows w rs => i < rs.length ∧ j + ti.sz ≤ w ∧ j + ti.sz ≤ (rs.getD i []).length ∧ K (.agg (((rs.getD i []).drop j).take ti.sz))
    | _ => False
  else i < cs.len ∧ j < cs.w ∧ K (cs.get i j)

/-- The same cells, with these from the element i, cell j on. -/
def stC (cs : Cells) (i j : Nat) (vs : List PV) (K : Cells → Prop) : Prop :=
  match cs with
  | .ints k xs => match vs with
    | [.int k' n] => i < xs.length ∧ j = 0 ∧ k' = k ∧ K (.ints k (xs.set i n))
    | _ => False
  | .rows w rs => i < rs.length ∧ j + vs.length ≤ w ∧ (rs.getD i []).length = w ∧ vs.all PV.one = true ∧ K (.rows w (rs.set i ((rs.getD i []).take j ++ vs ++ (rs.getD i []).drop (j + vs.length))))
  | .lp _ _ => False

/-- Two rows one behind the other. -/
def apC (a b : Cells) (K : Cells → Prop) : Prop :=
  match a, b with
  | .ints k xs, .ints k' ys => k' = k ∧ K (.ints k (xs ++ ys))
  | .rows w rs, .rows w' rs' => w' = w ∧ K (.rows w (rs ++ rs'))
  | _, _ => False

/-- A slice that may be read: its cells. -/
def rdS (H : Nat → Option Blk) (v : PV) (K : Cells → Prop) : Prop :=
  match v with
  | .ro cs => K cs
  | .nil cs => K cs
  | .sl id off n tot => match H id with
    | some b => b.cs.len = tot ∧ K (b.cs.sub off n)
    | none => False
  | _ => False

def ops2 (op : BinOp) (k : IntKind) (a b : Int) (K : PV → Prop) : Prop :=
  match op with
  | .add => K (.int k (k.wrap (a + b)))
  | .sub => K (.int k (k.wrap (a - b)))
  | .mul => K (.int k (k.wrap (a * b)))
  | .quo => b ≠ 0 ∧ K (.int k (k.wrap (a.tdiv b)))
  | .rem => b ≠ 0 ∧ K (.int k (a.tmod b))
  | .and => K (.int k (k.wrap (BitVec.ofInt k.bits a &&& BitVec.ofInt k.bits b).toNat))
  | .or => K (.int k (k.wrap (BitVec.ofInt k.bits a ||| BitVec.ofInt k.bits b).toNat))
  | .xor => K (.int k (k.wrap (BitVec.ofInt k.bits a ^^^ BitVec.ofInt k.bits b).toNat))
  | .eql => K (.bool (decide (a = b)))
  | .neq => K (.bool (!decide (a = b)))
  | .lss => K (.bool (decide (a < b)))
  | .leq => K (.bool (decide (a ≤ b)))
  | .gtr => K (.bool (decide (b < a)))
  | .geq => K (.bool (decide (b ≤ a)))
  | _ => False
def sh2 (op : BinOp) (k : IntKind) (a b : Int) (K : PV → Prop) : Prop :=
  match op with
  | .shl => 0 ≤ b ∧ K (.int k (k.wrap (a * 2 ^ (min b.toNat k.bits))))
  | .shr => 0 ≤ b ∧ K (.int k (a.fdiv (2 ^ (min b.toNat k.bits))))
  | _ => False
def eq1 (k : Tk) : PV → PV → Option Bool
  | .int j a, .int j' b => match k with
    | .int _ => if j' = j then some (decide (a = b)) else none
    | _ => none
  | .bool a, .bool b => match k with
    | .bool => some (a == b)
    | _ => none
  | _, _ => none
def eqF (T : Ty) : List (TypeId × Nat) → List PV → List PV → Option Bool
  | [], _, _ => some true
  | p :: fs, a, b => match T p.1, a[p.2]?, b[p.2]? with
    | some ti, some x, some y => match eq1 ti.k x y with
      | some r => (match eqF T fs a b with
        | some q => some (r && q)
        | none => none)
      | none => none
    | _, _, _ => none
def bin (T : Ty) (xt : TypeId) (op : BinOp) (x y : PV) (K : PV → Prop) : Prop :=
  match x, y with
  | .int k a, .int k' b => match op with
    | .shl | .shr => sh2 op k a b K
    | _ => k' = k ∧ ops2 op k a b K
  | .bool a, .bool b => match T xt with
    | some ti => ti.k = .bool ∧ (match op with
      | .eql => K (.bool (a == b))
      | .neq => K (.bool (!(a == b)))
      | _ => False)
    | none => False
  | .str a, .str b => match op with
    | .eql => K (.bool (decide (a = b)))
    | .neq => K (.bool (!decide (a = b)))
    | .add => ((a.size + b.size : Nat) : Int) ≤ 9223372036854775807 ∧ K (.str (a ++ b))
    | _ => False
  | .agg a, .agg b => match T xt with
    | some ti => (match ti.k with
      | .struct fs => (match eqF T fs a b with
        | some r => (match op with
          | .eql => K (.bool r)
          | .neq => K (.bool (!r))
          | _ => False)
        | none => False)
      | _ => False)
    | none => False
  | _, _ => False
end Go.Pv
