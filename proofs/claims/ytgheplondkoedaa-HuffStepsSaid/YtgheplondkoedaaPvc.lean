import Derived.Test.YtgheplondkoedaaPvb
namespace Go.Pv
set_option linter.unusedVariables false
open Go Go.RowKit

/-! ### Calls -/
/-- A memory of which the blocks of S are somebody's own. -/
def see (S : Nat → Prop) (w : World) : Cx := { w := w, loc := fun _ => .nilFunc, H := fun _ => none, A := fun _ => False, ow := S }
def ArgsOk (c : Cx) (q : Bool) (ps : List PV) (vs : Array Value) : Prop := ps.length = vs.size ∧ ∀ (i : Nat) p v, ps[i]? = some p → vs[i]? = some v → Rep c q p v
/-- The function, called with these (readable) arguments, returns this. -/
def PCall (P : Program) (f : FuncId) (ps : List PV) (r : PV) : Prop :=
  (∃ fn, P.funcs[f]? = some fn ∧ (fn.name == "runtime.NumGoroutine") = false ∧ fn.body.isNone = false) ∧
  ∀ (w : World) (vs : Array Value) (S : Nat → Prop), (∀ b, S b → b < w.heap.size) → ArgsOk (see S w) true ps vs → Calls P f vs w fun e w' => ∃ v, e = .returned v ∧ Rep (see S w') true r v ∧ Below w.heap.size w w'
/-- A block of the heap in which no block that is known of lies. -/
def Cx.idle (c : Cx) (b : Nat) : Prop := b < c.w.heap.size ∧ ∀ id blk, c.H id = some blk → blkOf (c.loc id) ≠ some b
structure Post (c c' : Cx) (B : Nat) (eff : Eff) : Prop where
  le : c.Le c'
  heap : HeapOk c' B
  H : c'.H = eff.on c.H
  A : ∀ id, c'.A id ↔ c.A id ∨ id ∈ eff.map (·.1)
  below : Below B c.w c'.w
  ow : ∀ b, b < B → c.ow b → c'.ow b
  only : ∀ b, c.idle b → c'.idle b ∧ c'.w.heap[b]? = c.w.heap[b]? ∧ (c.ow b → c'.ow b)
def getH : List (Nat × Option Blk) → Nat → Option Blk
  | [], _ => none
  | (i, v) :: r, t => if i = t then v else getH r t
/-- The function, called where these blocks are known (numbers from n on are free), returns this and does that to the blocks. -/
def HCall (P : Program) (f : FuncId) (ps : List PV) (Hr : List (Nat × Option Blk)) (n : Nat) (r : PV) (e : Eff) : Prop :=
  (∃ fn, P.funcs[f]? = some fn ∧ (fn.name == "runtime.NumGoroutine") = false ∧ fn.body.isNone = false) ∧
  ∀ (c : Cx) (B : Nat) (vs : Array Value), HeapOk c B → c.H = getH Hr → (∀ id, n ≤ id → ¬ c.A id) → ArgsOk c false ps vs → Calls P f vs c.w fun en w' => ∃ v c', en = .returned v ∧ c'.w = w' ∧ Rep c' false r v ∧ Post c c' B e
/-- No slice stands in it. -/
def scal1 : PV → Bool
  | .any | .bool _ | .int _ _ | .str _ | .nilf => true
  | _ => false
def PV.scal : PV → Bool
  | .agg cs => cs.all scal1
  | .tup cs => cs.all scal1
  | p => scal1 p

/-! ### What an operation does, on what is known -/
def ev (T : Ty) (tm : Nat → PV) (ty : TypeId) : Operand → PV
  | .tmp t => tm t
  | .const v => cst (match T ty with | some ti => ti.em | none => []) v
  | .func f => .fn f []
  | .global _ => .any

/-- No place of the call's own stands in it. -/
def pur1 : PV → Bool
  | .bool _ | .int _ _ | .str _ | .nilf | .nil _ | .ro _ | .rop _ _ _ | .fn _ [] => true
  | _ => false
def Cells.pur : Cells → Bool
  | .ints _ _ => true
  | .rows _ rs => rs.all fun r => r.all pur1
  | .lp _ _ => false
def frz1 (H : Nat → Option Blk) (v : PV) (K : PV → List Nat → Prop) : Prop :=
  match v with
  | .sl id off n tot => match H id with
    | some b => b.cs.len = tot ∧ K (.ro (if off = 0 ∧ n = tot then b.cs else b.cs.sub off n)) [id]
    | none => False
  | .nil cs => K (.ro cs) []
  | .ptr id i j tot => match H id with
    | some b => b.cs.len = tot ∧ b.cs.pur = true ∧ K (.rop b.cs i j) [id]
    | none => False
  | .opt _ _ => False
  | .agg _ => False
  | .tup _ => False
  | .asl _ _ _ => False
  | .yld _ => False
  | .fn _ (_ :: _) => False
  | v => K v []
def frzL (H : Nat → Option Blk) : List PV → (List PV → List Nat → Prop) → Prop
  | [], K => K [] []
  | v :: vs, K => frz1 H v fun p i => frzL H vs fun ps is => K (p :: ps) (i ++ is)
def frz (H : Nat → Option Blk) (v : PV) (K : PV → List Nat → Prop) : Prop :=
  match v with
  | .agg cs => frzL H cs fun l is => K (.agg l) is
  | .fn f caps => frzL H caps fun l is => K (.fn f l) is
  | v => frz1 H v K
def frzA (H : Nat → Option Blk) : List PV → (List PV → List Nat → Prop) → Prop
  | [], K => K [] []
  | v :: vs, K => frz H v fun p i => frzA H vs fun ps is => K (p :: ps) (i ++ is)

/-- Values that go into the cells of a row: what the call owned moves there. -/
def mvL : (Nat → Option Blk) → List PV → (List PV → Eff → Prop) → Prop
  | _, [], K => K [] []
  | H, v :: vs, K => match v with
    | .sl id off n tot => off = 0 ∧ n = tot ∧ (match H id with
      | some b => b.cs.len = tot ∧ mvL (put H id none) vs fun ps e => K (.ro b.cs :: ps) ((id, none) :: e)
      | none => False)
    | .nil cs => mvL H vs fun ps e => K (.ro cs :: ps) e
    | .ptr _ _ _ _ => False
    | .opt _ _ => False
    | .any => False
    | .agg _ => False
    | .tup _ => False
    | .asl _ _ _ => False
    | .yld _ => False
    | .fn f (q :: qs) => (q :: qs).all pur1 = true ∧ mvL H vs fun ps e => K (.fn f (q :: qs) :: ps) e
    | v => mvL H vs fun ps e => K (v :: ps) e

/-- The cells of a zero value, as they stand in a row. -/
def zp : List PV → Option (List PV)
  | [] => some []
  | p :: r => match p, zp r with
    | .int k n, some r => some (.int k n :: r)
    | .bool b, some r => some (.bool b :: r)
    | .str b, some r => some (.str b :: r)
    | .nilf, some r => some (.nilf :: r)
    | .nil cs, some r => some (.ro cs :: r)
    | _, _ => none

def argsP (ρ : TypeId → Operand → PV) : List Operand → List TypeId → List PV
  | [], _ => []
  | x :: xs, [] => ρ 0 x :: argsP ρ xs []
  | x :: xs, t :: ts => ρ t x :: argsP ρ xs ts

def idx (x : PV) (K : Int → Prop) : Prop := match x with | .int _ i => K i | _ => False

/-- 'build': the parts into a list of cells. 'pl': where a part stands and how many cells it takes. -/
def fillP (pl : Nat → Option (Nat × Nat × TypeId)) (ρ : TypeId → Operand → PV) : List PV → List (Nat × Operand) → (List PV → Prop) → Prop
  | cells, [], K => K cells
  | cells, (i, x) :: r, K => match pl i with
    | some (off, size, t) => match cellsOf (ρ t x) with
      | some vs => vs.length = size ∧ off + size ≤ cells.length ∧ fillP pl ρ (cells.take off ++ vs ++ cells.drop (off + size)) r K
      | none => False
    | none => False

def toInts (k : IntKind) : List PV → Option (List Int)
  | [] => some []
  | .int k' n :: r => if k' = k then (toInts k r).map (n :: ·) else none
  | _ => none
def chunks (w : Nat) : Nat → List PV → List (List PV)
  | 0, _ => []
  | n + 1, l => l.take w :: chunks w n (l.drop w)
/-- n elements of a type out of their cells. -/
def mkC (ti : TI) (n : Nat) (cells : List PV) : Option Cells :=
  match ti.k with
  | .int k => (toInts k cells).map (.ints k)
  | _ => some (.rows ti.sz (chunks ti.sz n cells))

def ldP (ti : TI) (H : Nat → Option Blk) (p : PV) (K : PV → Prop) : Prop :=
  match p with
  | .ptr id i j tot => match H id with
    | some b => b.cs.len = tot ∧ ldC ti b.cs i j K
    | none => False
  | .rop cs i j => ldC ti cs i j K
  | _ => False
def live (H : Nat → Option Blk) (id tot : Nat) : Prop := match H id with | some b => b.cs.len = tot | none => False
def fldP (H : Nat → Option Blk) (off : Nat) (p : PV) (K : PV → Prop) : Prop :=
  match p with
  | .ptr id i j tot => live H id tot ∧ K (.ptr id i (j + off) tot)
  | .rop cs i j => K (.rop cs i (j + off))
  | _ => False
def ixS (H : Nat → Option Blk) (te : TI) (i : Int) (p : PV) (K : PV → Prop) : Prop :=
  match p with
  | .ro cs => 0 ≤ i ∧ i < cs.len ∧ cs.w = te.sz ∧ K (.rop cs i.toNat 0)
  | .sl id off m tot => (match H id with
    | some b => b.cs.len = tot ∧ b.cs.w = te.sz ∧ 0 ≤ i ∧ i < m ∧ K (.ptr id (off + i.toNat) 0 tot)
    | none => False)
  | .asl id j m => (match H id with
    | some b => b.cs.len = 1 ∧ 0 ≤ i ∧ i < m ∧ K (.ptr id 0 (j + i.toNat * te.sz) 1)
    | none => False)
  | _ => False
def ixA (H : Nat → Option Blk) (m : Nat) (te : TI) (i : Int) (p : PV) (K : PV → Prop) : Prop :=
  match p with
  | .ptr id a j tot => live H id tot ∧ 0 ≤ i ∧ i < m ∧ K (.ptr id a (j + i.toNat * te.sz) tot)
  | .rop cs a j => 0 ≤ i ∧ i < m ∧ K (.rop cs a (j + i.toNat * te.sz))
  | _ => False

def oidx (ρ : TypeId → Operand → PV) (x : Option Operand) (K : Option Int → Prop) : Prop := match x with
  | none => K none
  | some x => idx (ρ 0 x) fun i => K (some i)
def slP (H : Nat → Option Blk) (te : TI) (lo hi : Option Int) (p : PV) (K : PV → Prop) : Prop :=
  match p with
  | .ro cs => 0 ≤ lo.getD 0 ∧ lo.getD 0 ≤ hi.getD cs.len ∧ hi.getD cs.len ≤ cs.len ∧ cs.w = te.sz ∧ K (.ro (cs.sub (lo.getD 0).toNat ((hi.getD cs.len).toNat - (lo.getD 0).toNat)))
  | .nil cs => lo.getD 0 = 0 ∧ hi.getD 0 = 0 ∧ K (.nil cs)
  | .sl id off m tot => (match H id with
    | some b => b.cs.len = tot ∧ b.cs.w = te.sz ∧ 0 ≤ lo.getD 0 ∧ lo.getD 0 ≤ hi.getD m ∧ hi.getD m ≤ m ∧ K (.sl id (off + (lo.getD 0).toNat) ((hi.getD m).toNat - (lo.getD 0).toNat) tot)
    | none => False)
  | _ => False
/-- 'a[:h]' of an array in a box -/
def slA (H : Nat → Option Blk) (m : Nat) (h : Int) (p : PV) (K : PV → Prop) : Prop :=
  match p with
  | .ptr id i j tot => (match H id with
    | some b => b.box = true ∧ b.cs.len = 1 ∧ tot = 1 ∧ i = 0 ∧ 0 ≤ h ∧ h ≤ m ∧ K (.asl id j h.toNat)
    | none => False)
  | _ => False
/-- 's[:0:0]' -/
def sl0 (H : Nat → Option Blk) (p : PV) (K : PV → Prop) : Prop :=
  match p with
  | .ro cs => K (.nil (cs.sub 0 0))
  | .nil cs => K (.nil cs)
  | .sl id _ _ _ => (match H id with
    | some b => K (.nil (b.cs.sub 0 0))
    | none => False)
  | _ => False

def apS (H : Nat → Option Blk) (n : Nat) (e : TypeId) (te : TI) (s x : PV) (K : PV → Eff → Prop) : Prop :=
  match s with
  | .sl id off m tot => off = 0 ∧ m = tot ∧ (match H id with
    | none => False
    | some b => b.cs.len = tot ∧ b.box = false ∧ b.e = e ∧ b.cs.w = te.sz ∧ rdS H x fun cs => (tot + cs.len) * te.bytes ≤ 140737488355328 ∧ tot + cs.len ≤ 140737488355328 ∧
      apC b.cs cs fun cs' => K (.sl id 0 (tot + cs.len) (tot + cs.len)) [(id, some { b with cs := cs' })])
  | .nil _ => rdS H x fun cs => cs.w = te.sz ∧ cs.len * te.bytes ≤ 140737488355328 ∧ cs.len ≤ 140737488355328 ∧ K (.sl n 0 cs.len cs.len) [(n, some ⟨cs, false, e⟩)]
  | _ => False

/-- the greatest (or the least) of numbers -/
def mxF (mx : Bool) (k : IntKind) : Int → List PV → (Int → Prop) → Prop
  | a, [], K => K a
  | a, p :: r, K => match p with
    | .int k' b => k' = k ∧ (if mx then mxF mx k (if b > a then b else a) r K else mxF mx k (if b < a then b else a) r K)
    | _ => False

def bltn (T : Ty) (ρ : TypeId → Operand → PV) (H : Nat → Option Blk) (n : Nat) (b : Builtin) (args : List Operand) (ts : List TypeId) (K : PV → Eff → Prop) : Prop :=
  match b, args, ts with
  | .len, [x], [t] => match T t with
    | some ti => (match ti.k, ρ t x with
      | .slice _, .ro cs => K (.int .i64 cs.len) []
      | .slice _, .nil cs => K (.int .i64 0) []
      | .slice _, .sl _ _ n _ => K (.int .i64 n) []
      | .slice _, .asl _ _ n => K (.int .i64 n) []
      | .str, .str s => K (.int .i64 s.size) []
      | _, _ => False)
    | none => False
  | .min, x :: xs, t :: ts => match ρ t x with
    | .int k a => mxF false k a (argsP ρ xs ts) fun v => K (.int k v) []
    | _ => False
  | .max, x :: xs, t :: ts => match ρ t x with
    | .int k a => mxF true k a (argsP ρ xs ts) fun v => K (.int k v) []
    | _ => False
  | .append, [s, x], [t, u] => u = t ∧ match T t with
    | none => False
    | some tt => match tt.k with
      | .slice e => match T e with
        | none => False
        | some te => 0 < te.sz ∧ apS H n e te (ρ t s) (ρ u x) K
      | _ => False
  | _, _, _ => False

def id1 : PV → List Nat
  | .sl id _ _ _ => [id]
  | .ptr id _ _ _ => [id]
  | .asl id _ _ => [id]
  | .yld id => [id]
  | _ => []
def PV.ids : PV → List Nat
  | .agg cs => cs.flatMap id1
  | .fn _ caps => caps.flatMap id1
  | .sl id _ _ _ => [id]
  | .ptr id _ _ _ => [id]
  | .asl id _ _ => [id]
  | .yld id => [id]
  | _ => []
def inL1 (L : Nat → Bool) : PV → Bool
  | .sl id _ _ _ => L id
  | .ptr id _ _ _ => L id
  | .asl id _ _ => L id
  | .yld id => L id
  | .fn _ (_ :: _) | .agg _ | .tup _ | .opt _ _ => false
  | _ => true
def PV.inL (L : Nat → Bool) : PV → Bool
  | .fn _ caps => caps.all (inL1 L)
  | .agg cs => cs.all (inL1 L)
  | .tup cs => cs.all (inL1 L)
  | p => inL1 L p
def Cells.inL (L : Nat → Bool) : Cells → Bool
  | .ints _ _ => true
  | .rows _ rs => rs.all fun r => r.all (inL1 L)
  | .lp _ ps => ps.all (PV.inL L)
def Blk.inL (L : Nat → Bool) (b : Blk) : Bool := !b.box || b.cs.inL L
/-- A call that gets places of the caller's own, or gives own places back. -/
def hcl (P : Program) (H : Nat → Option Blk) (n : Nat) (g : FuncId) (args : List PV) (K : PV → Eff → Prop) : Prop :=
  ∃ Hr r e, HCall P g args Hr n r e ∧ (∀ p ∈ Hr, p.1 ∈ args.flatMap PV.ids ∧ p.1 < n ∧ H p.1 = p.2 ∧ ∀ b, p.2 = some b → b.inL (fun i => (Hr.map (·.1)).contains i) = true) ∧
    args.all (PV.inL fun i => (Hr.map (·.1)).contains i) = true ∧ (∀ p ∈ e, p.1 ∈ Hr.map (·.1) ∨ (n ≤ p.1 ∧ p.1 < n + 8)) ∧ K r e

def opv (P : Program) (T : Ty) (o : Oper) (ρ : TypeId → Operand → PV) (H : Nat → Option Blk) (n : Nat) (K : PV → Eff → Prop) : Prop :=
  match o.op with
  | .move x | .assign x => K (ρ o.type x) []
  | .pick c x y => match ρ 0 c with
    | .bool t => (t = true → K (ρ o.type x) []) ∧ (t = false → K (ρ o.type y) [])
    | _ => False
  | .box e x => match cellsOf (ρ e x) with
    | some vs => vs.all PV.one = true ∧ K (.ptr n 0 0 1) [(n, some ⟨.rows vs.length [vs], true, e⟩)]
    | none => False
  | .alloc e => match T e with
    | some ti => match cellsOf ti.zero with
      | some vs => vs.all PV.one = true ∧ K (.ptr n 0 0 1) [(n, some ⟨.rows vs.length [vs], true, e⟩)]
      | none => False
    | none => False
  | .load t x => match T t with
    | some ti => ldP ti H (ρ 0 x) fun v => K v []
    | none => False
  | .store t x y => match T t with
    | some ti => match ρ 0 x with
      | .ptr id i j tot => match H id with
        | some b => b.cs.len = tot ∧ (match cellsOf (ρ t y) with
          | some vs => vs.length = ti.sz ∧ vs.all PV.one = true ∧ (b.box = true → stC b.cs i j vs fun cs' => K .any [(id, some { b with cs := cs' })]) ∧
            (b.box = false → mvL H vs fun vs' e => (∀ p ∈ e, p.1 ≠ id) ∧ stC b.cs i j vs' fun cs' => K .any (e ++ [(id, some { b with cs := cs' })]))
          | none => False)
        | none => False
      | _ => False
    | none => False
  | .nilCheck x => match ρ 0 x with
    | .ptr id i j tot => live H id tot ∧ K (.ptr id i j tot) []
    | .rop cs i j => K (.rop cs i j) []
    | .fn f caps => K (.fn f caps) []
    | _ => False
  | .fieldAddr t x f => match T t with
    | some ti => match ti.k with
      | .struct fs => match fs[f]? with
        | some (ft, off) => (match T ft with | some tf => 0 < tf.sz | none => False) ∧ fldP H off (ρ 0 x) fun v => K v []
        | none => False
      | _ => False
    | none => False
  | .indexAddr t x ix => match T t with
    | some ti => match ti.k with
      | .slice e => match T e with
        | none => False
        | some te => idx (ρ 0 ix) fun i => ixS H te i (ρ t x) fun v => K v []
      | .arr m e => match T e with
        | none => False
        | some te => idx (ρ 0 ix) fun i => ixA H m te i (ρ 0 x) fun v => K v []
      | _ => False
    | none => False
  | .binOp op t x y u => bin T t op (ρ t x) (ρ u y) fun v => K v []
  | .unOp op t x => match op, ρ t x with
    | .not, .bool b => K (.bool (!b)) []
    | .neg, .int k a => K (.int k (k.wrap (0 - a))) []
    | _, _ => False
  | .convert s d x => match T d, T s with
    | some td, some ts => match td.k with
      | .int k => match ρ s x with
        | .int _ a => K (.int k (k.wrap a)) []
        | _ => False
      | .str => match ts.k with
        | .slice e => match T e with
          | some te => te.k = .int .u8 ∧ rdS H (ρ s x) fun cs => match cs with
            | .ints .u8 xs => K (.str (xs.foldl (fun r n => r.push (UInt8.ofNat n.toNat)) ByteArray.empty)) []
            | .rows _ [] => K (.str ByteArray.empty) []
            | _ => False
          | none => False
        | _ => False
      | _ => False
    | _, _ => False
  | .makeFunc fn first caps => match fn with
    | .func f => first = #[] ∧ K (.fn f (argsP ρ caps.toList [])) []
    | _ => False
  | .extract x i => match ρ 0 x with
    | .tup vs => match vs[i]? with
      | some v => K v []
      | none => False
    | _ => False
  | .build t parts => match T t with
    | some ti => match ti.zero with
      | .agg z => match ti.k with
        | .struct fs => fillP (fun i => match fs[i]? with | some (ft, off) => (match T ft with | some tf => some (off, tf.sz, ft) | none => none) | none => none) ρ z parts.toList fun cells => K (.agg cells) []
        | .arr m e => match T e with
          | some te => fillP (fun i => some (i * te.sz, te.sz, e)) ρ z parts.toList fun cells => K (.agg cells) []
          | none => False
        | _ => False
      | _ => False
    | none => False
  | .buildSlice t len parts => match T t with
    | some tt => match tt.k with
      | .slice e => match T e with
        | some te => 0 ≤ len ∧ 0 < te.sz ∧ len * te.sz ≤ 16777216 ∧ (match cellsOf te.zero with
          | some z => fillP (fun i => some (i * te.sz, te.sz, e)) ρ ((List.replicate len z).flatten) parts.toList fun cells =>
            cells.all PV.one = true ∧ mvL H cells fun cells' ef => match mkC te len cells' with
              | some cs => K (.ro cs) ef ∨ K (.sl n 0 len len) (ef ++ [(n, some ⟨cs, false, e⟩)])
              | none => False
          | none => False)
        | none => False
      | _ => False
    | none => False
  | .makeSlice t l cp => match T t with
    | some tt => match tt.k with
      | .slice e => match T e with
        | some te => idx (ρ 0 l) fun a => idx (ρ 0 cp) fun b => b = a ∧ 0 ≤ a ∧ a * te.bytes ≤ 140737488355328 ∧ a ≤ 140737488355328 ∧ 0 < te.sz ∧ (match cellsOf te.zero with
          | some z => z.all PV.one = true ∧ (match te.k, z with
            | .int k, [.int k' 0] => k' = k ∧ (K (.ro (.ints k (List.replicate a.toNat 0))) [] ∨ K (.sl n 0 a.toNat a.toNat) [(n, some ⟨.ints k (List.replicate a.toNat 0), false, e⟩)])
            | .int _, _ => False
            | _, z => match zp z with
              | some z' => K (.ro (.rows te.sz (List.replicate a.toNat z'))) [] ∨ K (.sl n 0 a.toNat a.toNat) [(n, some ⟨.rows te.sz (List.replicate a.toNat z'), false, e⟩)]
              | none => False)
          | none => False)
        | none => False
      | _ => False
    | none => False
  | .slice t x lo hi mx => match T t with
    | some tt => match tt.k with
      | .slice e => match T e with
        | some te => (match mx with
          | some m => lo = none ∧ (match hi with | some h => ρ 0 h = .int .i64 0 | none => False) ∧ ρ 0 m = .int .i64 0 ∧ sl0 H (ρ t x) fun v => K v []
          | none => oidx ρ lo fun l => oidx ρ hi fun h => slP H te l h (ρ t x) fun v => K v [])
        | none => False
      | .arr m e => mx = none ∧ lo = none ∧ (T e).isSome = true ∧ oidx ρ hi fun h => slA H m (h.getD m) (ρ 0 x) fun v => K v []
      | _ => False
    | none => False
  | .index t x ix => match T t with
    | some ti => match ti.k with
      | .arr m e => match T e with
        | some te => idx (ρ 0 ix) fun i => match ρ t x with
          | .agg cs => 0 ≤ i ∧ i < m ∧ (if te.k.agg then i.toNat * te.sz + te.sz ≤ cs.length ∧ K (.agg ((cs.drop (i.toNat * te.sz)).take te.sz)) []
              else ∃ v, cs[i.toNat * te.sz]? = some v ∧ K v [])
          | _ => False
        | none => False
      | _ => False
    | none => False
  | .call c => match c.callee with
    | .builtin b => bltn T ρ H n b c.args.toList c.argTypes.toList K
    | .value f => match ρ 0 f with
      | .fn g caps => (frzA H (argsP ρ c.args.toList c.argTypes.toList ++ caps) fun ps is => ∃ r, PCall P g ps r ∧ (if r.scal then K r [] else K r (is.map fun i => (i, none)))) ∨ hcl P H n g (argsP ρ c.args.toList c.argTypes.toList ++ caps) K
      | _ => False
    | _ => False
  | _ => False
end Go.Pv
