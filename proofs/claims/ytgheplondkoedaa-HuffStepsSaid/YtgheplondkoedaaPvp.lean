import Derived.Test.YtgheplondkoedaaPvt
import Derived.Deep.LoopGhost
namespace Go.Pv
set_option linter.unusedVariables false
set_option linter.unusedSimpArgs false
open Go Go.RowKit

/-! ### States -/
def getT : List (Nat × PV) → Nat → PV
  | [], _ => .any
  | (i, v) :: r, t => if i = t then v else getT r t
/-- What is known: of the slots (the newest first), of the call's own blocks; and the number of the next block. -/
structure St where
  tm : List (Nat × PV)
  H : List (Nat × Option Blk)
  n : Nat
def onL : Eff → List (Nat × Option Blk) → List (Nat × Option Blk)
  | [], H => H
  | p :: r, H => onL r (p :: H)
def nxt : Eff → Nat → Nat
  | [], n => n
  | p :: r, n => nxt r (max n (p.1 + 1))
def putT (nt : Nat) (tm : List (Nat × PV)) (d : Option Nat) (v : PV) : List (Nat × PV) := match d with
  | some d => if d < nt then (d, v) :: tm else tm
  | none => tm

theorem getH_on : ∀ (e : Eff) (H : List (Nat × Option Blk)), getH (onL e H) = e.on (getH H)
  | [], _ => rfl
  | (i, b) :: r, H => by
    show getH (onL r ((i, b) :: H)) = Eff.on r (put (getH H) i b)
    rw [getH_on r]
    rfl
theorem on_same : ∀ (E : Eff) (H : Nat → Option Blk), (∀ p ∈ E, H p.1 = p.2) → E.on H = H
  | [], H, _ => rfl
  | (i, b) :: E, H, h => by
    have e : put H i b = H := by
      funext t
      unfold put
      split
      · rename_i he
        subst he
        exact (h (i, b) (by simp)).symm
      · rfl
    show Eff.on E (put H i b) = H
    rw [e]
    exact on_same E H fun p hp => h p (by simp [hp])
theorem nxt_ge : ∀ (e : Eff) (n : Nat), n ≤ nxt e n ∧ ∀ p ∈ e, p.1 < nxt e n
  | [], n => ⟨Nat.le_refl _, fun p h => by simp at h⟩
  | q :: r, n => by
    obtain ⟨h1, h2⟩ := nxt_ge r (max n (q.1 + 1))
    refine ⟨?_, fun p hp => ?_⟩
    · show n ≤ nxt r (max n (q.1 + 1))
      omega
    · show p.1 < nxt r (max n (q.1 + 1))
      rcases List.mem_cons.1 hp with rfl | hp
      · omega
      · exact h2 p hp

/-- Where a walk began: of s that it is somebody's own; the context then, its numbers below n0. -/
structure Fr (n0 : Nat) where
  s : Nat → Prop
  c0 : Cx
structure Keep {n0 : Nat} (S : Fr n0) (B : Nat) (W0 : World) (c : Cx) : Prop where
  s : ∀ b, S.s b → b < B ∧ c.ow b
  le : S.c0.Le c
  only : ∀ b, S.c0.idle b → c.idle b ∧ c.w.heap[b]? = S.c0.w.heap[b]? ∧ (S.c0.ow b → c.ow b)
  lt : ∀ id, S.c0.A id → id < n0
theorem Keep.post {n0 : Nat} {S : Fr n0} {B : Nat} {W0 : World} {c c' : Cx} {e : Eff} (h : Keep S B W0 c) (hp : Post c c' B e) : Keep S B W0 c' :=
  ⟨fun b hb => ⟨(h.s b hb).1, hp.ow b (h.s b hb).1 (h.s b hb).2⟩, h.le.trans hp.le, fun b hb => let ⟨h1, h2, h3⟩ := h.only b hb; let ⟨k1, k2, k3⟩ := hp.only b h1; ⟨k1, k2.trans h2, fun h => k3 (h3 h)⟩, h.lt⟩
def Sim {n0 : Nat} (S : Fr n0) (B nt : Nat) (W0 : World) (st : St) (a : Act) (w : World) : Prop := ∃ c : Cx, c.w = w ∧ c.H = getH st.H ∧ HeapOk c B ∧ (∀ id, st.n ≤ id → ¬ c.A id) ∧
  (∀ t, Rep c false (getT st.tm t) (a.tmps.getD t undef)) ∧ a.tmps.size = nt ∧ a.defers = [] ∧ Below B W0 w ∧ Keep S B W0 c

variable {P : Program} {T : Ty} {nt n0 : Nat}

theorem put_rep {c : Cx} {a : Act} {tm : List (Nat × PV)} (h : ∀ t, Rep c false (getT tm t) (a.tmps.getD t undef)) (hs : a.tmps.size = nt) (d : Option Nat) {pv : PV} {v : Value} (hp : Rep c false pv v) (t : Nat) : Rep c false (getT (putT nt tm d pv) t) ((a.put d v).tmps.getD t undef) := by
  cases d with
  | none => exact h t
  | some d =>
    simp only [putT, Act.put]
    by_cases hd : d < nt
    · rw [if_pos hd]
      simp only [getT]
      by_cases ht : d = t
      · subst ht
        rw [if_pos rfl]
        have hd' : d < a.tmps.size := by omega
        simp [hd']
        exact hp
      · rw [if_neg ht]
        have := h t
        simp only [Array.getD_eq_getD_getElem?] at this ⊢
        rw [Array.getElem?_setIfInBounds_ne ht]
        exact this
    · rw [if_neg hd]
      have : a.tmps.setIfInBounds d v = a.tmps := Array.setIfInBounds_eq_of_size_le (by omega)
      rw [this]
      exact h t
theorem put_size (a : Act) (d : Option Nat) (v : Value) : (a.put d v).tmps.size = a.tmps.size := by
  cases d <;> simp [Act.put]
theorem put_defers (a : Act) (d : Option Nat) (v : Value) : (a.put d v).defers = a.defers := by
  cases d <;> rfl

/-- Is an operation wanted? -/
def un : PV → PV
  | .opt _ v => v
  | p => p
def gb : PV → Bool
  | .opt b _ => b
  | _ => true
/-- The Bool that stands for 'wanted'. -/
def gd (ops : List Oper) (o : Oper) (tm : Nat → PV) (K : Bool → Prop) : Prop := match o.guard with
  | none => K true
  | some (j, want) => match (ops[j]?).bind (·.dst) with
    | some d => match tm d with
      | .bool b => K (b == want)
      | .opt g (.bool b) => K (g && (b == want))
      | _ => False
    | none => False
/-- Under b: what the operands hold is there. -/
def need (tm : Nat → PV) (b : Bool) : List Operand → Prop
  | [] => True
  | .tmp t :: r => (match tm t with | .opt g _ => b = true → g = true | _ => True) ∧ need tm b r
  | _ :: r => need tm b r
def evu (T : Ty) (tm : Nat → PV) (t : TypeId) (x : Operand) : PV := un (ev T tm t x)
/-- One operation under b. -/
def step1 (P : Program) (T : Ty) (o : Oper) (tm : Nat → PV) (H : Nat → Option Blk) (n : Nat) (b : Bool) (K : PV → Eff → Prop) : Prop :=
  match o.op with
  | .pick x y z => (match evu T tm 0 x, evu T tm o.type y, evu T tm o.type z with
    | .bool t, .bool e1, .bool e2 => need tm b [x] ∧ (need tm (b && t) [y]) ∧ (need tm (b && !t) [z]) ∧ K (.bool (if t then e1 else e2)) []
    | _, _, _ => need tm b [x, y, z] ∧ opv P T o (evu T tm) H n K)
  | _ => need tm b (opnds o.op) ∧ opv P T o (evu T tm) H n K

def unT : PV → PV
  | .opt b v => if b then v else .any
  | p => p
theorem unT_rep {c : Cx} {p : PV} {v : Value} (h : Rep c false p v) : Rep c false (unT p) v := by
  cases h with
  | opt _ b q _ h1 h2 =>
    cases b with
    | true => exact h1 rfl
    | false => exact .any ..
  | any => exact .any ..
  | bool => exact .bool ..
  | int => exact .int ..
  | str => exact .str ..
  | nilf => exact .nilf _
  | nil _ cs A h => exact .nil _ cs A h
  | ro0 _ cs A cp h => exact .ro0 _ cs A cp h
  | ro _ cs b off cp f h1 h2 h3 h4 h5 h6 => exact .ro _ cs b off cp f h1 h2 h3 h4 h5 h6
  | rop _ cs i j b off f h1 h2 h3 h4 => exact .rop _ cs i j b off f h1 h2 h3 h4
  | sl id off n tot v ha hs hk => exact .sl id off n tot v ha hs hk
  | ptr id i j tot v ha hs hk => exact .ptr id i j tot v ha hs hk
  | asl id j n v ha hs hk => exact .asl id j n v ha hs hk
  | yld id v ha hs hk => exact .yld id v ha hs hk
  | fn _ f caps vs h1 h2 => exact .fn _ f caps vs h1 h2
  | agg _ cs vs h1 h2 => exact .agg _ cs vs h1 h2
  | tup _ cs vs h1 h2 => exact .tup _ cs vs h1 h2
theorem cst_un (em : List (Option Cells)) (v : Value) : un (cst em v) = cst em v ∧ unT (cst em v) = cst em v := by
  unfold cst cst1
  split
  · exact ⟨rfl, rfl⟩
  · split <;> exact ⟨rfl, rfl⟩
theorem need_un {tm : Nat → PV} : ∀ {l : List Operand}, need tm true l → ∀ t, ∀ x ∈ l, evu T tm t x = unT (ev T tm t x)
  | [], _, t, x, hx => by simp at hx
  | y :: r, h, t, x, hx => by
    rcases List.mem_cons.1 hx with rfl | hx
    · cases x with
      | tmp i =>
        have h1 := h.1
        show un (tm i) = unT (tm i)
        cases hq : tm i <;> try rfl
        rw [hq] at h1
        have h2 := h1 rfl
        rw [h2]
        rfl
      | const v => exact (cst_un _ v).1.trans (cst_un _ v).2.symm
      | func f => rfl
      | global g => rfl
    · refine need_un (l := r) ?_ t x hx
      cases y <;> first | exact h.2 | exact h
theorem evu_bool {c : Cx} {a : Act} {tm : Nat → PV} (hT : TyOk P T) (hrep : ∀ t, Rep c false (tm t) (a.tmps.getD t undef)) {t : TypeId} {x : Operand} {e : Bool} (hn : need tm true [x]) (h : evu T tm t x = .bool e) : a.eval x = .bool e := by
  have h1 := unT_rep (ev_ok hT hrep t x)
  rw [← need_un hn t x (by simp), h] at h1
  generalize a.eval x = v at h1
  cases h1
  rfl
theorem step1_ok (hT : TyOk P T) {c : Cx} {B n : Nat} {a : Act} {o : Oper} {tm : Nat → PV} {K : PV → Eff → Prop} (hok : HeapOk c B) (hn : ∀ q, q < 8 → ¬ c.A (n + q)) (hrep : ∀ t, Rep c false (tm t) (a.tmps.getD t undef)) (h : step1 P T o tm c.H n true K) : Does P o a c B K := by
  have gen : need tm true (opnds o.op) → opv P T o (evu T tm) c.H n K → Does P o a c B K := fun h1 h2 => by
    rw [opv_congr (ρ' := fun t x => unT (ev T tm t x)) (fun t x hx => need_un h1 t x hx)] at h2
    exact opv_sound hT hok hn (fun t x => unT_rep (ev_ok hT hrep t x)) h2
  unfold step1 at h
  split at h
  · rename_i x y z hop
    split at h
    · rename_i t e1 e2 hx hy hz
      obtain ⟨n1, n2, n3, hk⟩ := h
      have hv := evu_bool hT hrep n1 hx
      cases t with
      | true =>
        have hv2 := evu_bool hT hrep n2 hy
        exact does_val (v := .bool e1) (by simp only [execOp, hop, hv, hv2, asBool, Sem.run_bind, Sem.run_pure, Result.andThen_ok, if_true]) (.bool ..) hk hok
      | false =>
        have hv2 := evu_bool hT hrep n3 hz
        exact does_val (v := .bool e2) (by simp only [execOp, hop, hv, hv2, asBool, Sem.run_bind, Sem.run_pure, Result.andThen_ok, Bool.false_eq_true, if_false]) (.bool ..) hk hok
    · exact gen (by rw [hop]; exact h.1) h.2
  · exact gen h.1 h.2

theorem gd_ok {c : Cx} {a : Act} {tm : Nat → PV} {ops : Array Oper} {o : Oper} {K : Bool → Prop} (h : ∀ t, Rep c false (tm t) (a.tmps.getD t undef)) (hg : gd ops.toList o tm K) : ∃ b, Region.wanted o (yielded ops a.tmps) = b ∧ K b ∧ (o.guard = none → b = true) := by
  unfold gd at hg
  unfold Region.wanted
  split at hg
  · rename_i he
    rw [he]
    exact ⟨true, rfl, hg, fun _ => rfl⟩
  · rename_i j want he
    rw [he]
    have hy : ∀ d, (ops.toList[j]?).bind (·.dst) = some d → ∀ v : Value, a.tmps.getD d undef = v → yielded ops a.tmps j = (match v with | .bool b => some b | _ => none) := fun d hd v hv => by
      rw [Array.getElem?_toList] at hd
      subst hv
      simp only [yielded, hd, Option.bind_some, Array.getD_eq_getD_getElem?]
      cases hq : a.tmps[d]? with
      | none => rfl
      | some v => cases v <;> rfl
    split at hg
    · rename_i d hd
      have hr := h d
      split at hg
      · rename_i b hb
        rw [hb] at hr
        refine ⟨b == want, ?_, hg, fun h => by cases h⟩
        have hv : a.tmps.getD d undef = .bool b := by
          generalize a.tmps.getD d undef = v at hr
          cases hr
          rfl
        simp only [hy d hd _ hv]
        cases b <;> cases want <;> rfl
      · rename_i g b hb
        rw [hb] at hr
        refine ⟨g && (b == want), ?_, hg, fun h => by cases h⟩
        cases hr with
        | opt _ _ _ _ h1 h2 =>
          cases g with
          | true =>
            have hv : a.tmps.getD d undef = .bool b := by
              have hr := h1 rfl
              generalize a.tmps.getD d undef = v at hr
              cases hr
              rfl
            simp only [hy d hd _ hv]
            cases b <;> cases want <;> rfl
          | false =>
            simp only [hy d hd _ (h2 rfl)]
            rfl
      · exact hg.elim
    · exact hg.elim

/-- What a plain operation under a guard may be guessed to give. -/
def ldv (ti : TI) (cs : Cells) (i j : Nat) : PV :=
  if ti.k.agg then match cs with
    | .rows _ rs => .agg (((rs.getD i []).drop j).take ti.sz)
    | _ => .any
  else cs.get i j
def binv (op : BinOp) (x y : PV) : PV := match x, y with
  | .int k a, .int _ b => match op with
    | .add => .int k (k.wrap (a + b))
    | .sub => .int k (k.wrap (a - b))
    | .mul => .int k (k.wrap (a * b))
    | .quo => .int k (k.wrap (a.tdiv b))
    | .rem => .int k (a.tmod b)
    | .and => .int k (k.wrap (BitVec.ofInt k.bits a &&& BitVec.ofInt k.bits b).toNat)
    | .or => .int k (k.wrap (BitVec.ofInt k.bits a ||| BitVec.ofInt k.bits b).toNat)
    | .xor => .int k (k.wrap (BitVec.ofInt k.bits a ^^^ BitVec.ofInt k.bits b).toNat)
    | .eql => .bool (decide (a = b))
    | .neq => .bool (!decide (a = b))
    | .lss => .bool (decide (a < b))
    | .leq => .bool (decide (a ≤ b))
    | .gtr => .bool (decide (b < a))
    | .geq => .bool (decide (b ≤ a))
    | .shl => .int k (k.wrap (a * 2 ^ (min b.toNat k.bits)))
    | .shr => .int k (a.fdiv (2 ^ (min b.toNat k.bits)))
    | _ => .any
  | .bool a, .bool b => match op with
    | .eql => .bool (a == b)
    | .neq => .bool (!(a == b))
    | _ => .any
  | .str a, .str b => match op with
    | .eql => .bool (decide (a = b))
    | .neq => .bool (!decide (a = b))
    | .add => .str (a ++ b)
    | _ => .any
  | _, _ => .any
def mxv (mx : Bool) (k : IntKind) : Int → List PV → Option PV
  | a, [] => some (.int k a)
  | a, .int _ b :: r => if mx then mxv mx k (if b > a then b else a) r else mxv mx k (if b < a then b else a) r
  | _, _ => none
def strv (td : TI) (cs : Cells) : Option PV := match td.k with
  | .str => match cs with
    | .ints .u8 xs => some (.str (xs.foldl (fun r n => r.push (UInt8.ofNat n.toNat)) ByteArray.empty))
    | .rows _ [] => some (.str ByteArray.empty)
    | _ => none
  | _ => none
def sugI (T : Ty) (tm : Nat → PV) (d : Int) : Option Operand → Option Int
  | none => some d
  | some x => match evu T tm 0 x with
    | .int _ i => some i
    | _ => none
def sug (T : Ty) (o : Oper) (tm : Nat → PV) (H : Nat → Option Blk) : Option PV := match o.op with
  | .move x | .assign x => some (evu T tm o.type x)
  | .pick x y z => match evu T tm 0 x, evu T tm o.type y, evu T tm o.type z with
    | .bool t, .bool e1, .bool e2 => some (.bool (if t then e1 else e2))
    | _, _, _ => none
  | .load t x => match T t with
    | some ti => match evu T tm 0 x with
      | .ptr id i j _ => match H id with
        | some b => some (ldv ti b.cs i j)
        | none => none
      | .rop cs i j => some (ldv ti cs i j)
      | _ => none
    | none => none
  | .fieldAddr t x f => match T t with
    | some ti => match ti.k with
      | .struct fs => match fs[f]?, evu T tm 0 x with
        | some (_, off), .ptr id i j tot => some (.ptr id i (j + off) tot)
        | some (_, off), .rop cs i j => some (.rop cs i (j + off))
        | _, _ => none
      | _ => none
    | none => none
  | .indexAddr t x ix => match evu T tm 0 ix, evu T tm t x with
    | .int _ i, .ro cs => some (.rop cs i.toNat 0)
    | .int _ i, .sl id off _ tot => some (.ptr id (off + i.toNat) 0 tot)
    | .int _ i, .asl id j _ => match T (ety T t) with
      | some te => some (.ptr id 0 (j + i.toNat * te.sz) 1)
      | none => none
    | .int _ i, .ptr id a j tot => match T t with
      | some ti => match ti.k with
        | .arr _ e => match T e with
          | some te => some (.ptr id a (j + i.toNat * te.sz) tot)
          | none => none
        | _ => none
      | none => none
    | .int _ i, .rop cs a j => match T t with
      | some ti => match ti.k with
        | .arr _ e => match T e with
          | some te => some (.rop cs a (j + i.toNat * te.sz))
          | none => none
        | _ => none
      | none => none
    | _, _ => none
  | .binOp op t x y u => some (binv op (evu T tm t x) (evu T tm u y))
  | .unOp op t x => match op, evu T tm t x with
    | .not, .bool b => some (.bool (!b))
    | .neg, .int k a => some (.int k (k.wrap (0 - a)))
    | _, _ => none
  | .convert _ d x => match T d, evu T tm 0 x with
    | some td, .int _ a => match td.k with
      | .int k => some (.int k (k.wrap a))
      | _ => none
    | some td, .ro cs => strv td cs
    | some td, .nil cs => strv td cs
    | some td, .sl id off m tot => match H id with
      | some b => strv td (if off = 0 ∧ m = tot then b.cs else b.cs.sub off m)
      | none => none
    | _, _ => none
  | .extract x i => match evu T tm 0 x with
    | .tup vs => vs[i]?
    | _ => none
  | .makeFunc fn _ caps => match fn with
    | .func f => some (.fn f (argsP (evu T tm) caps.toList []))
    | _ => none
  | .call c => match c.callee, c.args.toList with
    | .builtin .len, [x] => match evu T tm 0 x with
      | .ro cs => some (.int .i64 cs.len)
      | .nil _ => some (.int .i64 0)
      | .sl _ _ n _ => some (.int .i64 n)
      | .asl _ _ n => some (.int .i64 n)
      | .str s => some (.int .i64 s.size)
      | _ => none
    | .builtin .min, x :: xs => match evu T tm 0 x with
      | .int k a => mxv false k a (xs.map (evu T tm 0))
      | _ => none
    | .builtin .max, x :: xs => match evu T tm 0 x with
      | .int k a => mxv true k a (xs.map (evu T tm 0))
      | _ => none
    | _, _ => none
  | .index t x ix => match T t with
    | some ti => match ti.k with
      | .arr m e => match T e with
        | some te => match evu T tm 0 ix, evu T tm t x with
          | .int _ i, .agg cs => some (if te.k.agg then .agg ((cs.drop (i.toNat * te.sz)).take te.sz) else cs.getD (i.toNat * te.sz) .any)
          | _, _ => none
        | none => none
      | _ => none
    | none => none
  | .slice t x lo hi none => match evu T tm t x with
    | .ro cs => match sugI T tm 0 lo, sugI T tm cs.len hi with
      | some l, some h => some (.ro (cs.sub l.toNat (h.toNat - l.toNat)))
      | _, _ => none
    | .sl id off m tot => match sugI T tm 0 lo, sugI T tm m hi with
      | some l, some h => some (.sl id (off + l.toNat) (h.toNat - l.toNat) tot)
      | _, _ => none
    | .nil cs => some (.nil cs)
    | _ => none
  | .nilCheck x => some (evu T tm 0 x)
  | _ => none

/-- The operations one behind the other. -/
def runs (P : Program) (T : Ty) (nt : Nat) (all : List Oper) : List Oper → St → (St → Prop) → Prop
  | [], st, K => K st
  | o :: os, st, K => gd all o (getT st.tm) fun b => match o.guard with
    | none => step1 P T o (getT st.tm) (getH st.H) st.n true fun pv eff => runs P T nt all os ⟨putT nt st.tm o.dst pv, onL eff st.H, nxt eff st.n⟩ K
    | some _ => match sug T o (getT st.tm) (getH st.H) with
      | some v => (b = true → step1 P T o (getT st.tm) (getH st.H) st.n b fun pv eff => pv = v ∧ eff = []) ∧ runs P T nt all os ⟨putT nt st.tm o.dst (.opt b v), st.H, st.n⟩ K
      | none => (∃ v, (b = true → step1 P T o (getT st.tm) (getH st.H) st.n b fun pv eff => pv = v ∧ eff = []) ∧ runs P T nt all os ⟨putT nt st.tm o.dst (.opt b v), st.H, st.n⟩ K) ∨
        (∃ v E, (b = true → step1 P T o (getT st.tm) (getH st.H) st.n b fun pv eff => pv = v ∧ eff = E) ∧ (b = false → ∀ p ∈ E, getH st.H p.1 = p.2) ∧ runs P T nt all os ⟨putT nt st.tm o.dst (.opt b v), onL E st.H, nxt E st.n⟩ K)

theorem runs_ok (hT : TyOk P T) {n0 : Nat} {S : Fr n0} {B : Nat} {W0 : World} {ops : Array Oper} {Q : Exit → Act → World → Prop} {K : St → Prop} (hQ : ∀ st a w, K st → Sim S B nt W0 st a w → Q .normal a w) :
    ∀ (l : List Oper) (st : St) (a : Act) (w : World), runs P T nt ops.toList l st K → Sim S B nt W0 st a w → wpList P ops Q l a w
  | [], st, a, w, h, hs => hQ st a w h hs
  | o :: l, st, a, w, h, hs => by
    obtain ⟨c, rfl, hH, hok, hfresh, hrep, hsz, hdef, hbel, hS⟩ := hs
    obtain ⟨b, hw, h1, h0⟩ := gd_ok hrep h
    unfold wpList
    rw [hw]
    have after : ∀ (pv : PV) (eff : Eff) (v : Value) (c' : Cx), runs P T nt ops.toList l ⟨putT nt st.tm o.dst pv, onL eff st.H, nxt eff st.n⟩ K → Rep c' false pv v → Post c c' B eff → wpList P ops Q l (a.put o.dst v) c'.w := fun pv eff v c' hk hp hpost => by
      refine runs_ok hT hQ l _ _ _ hk ⟨c', rfl, ?_, hpost.heap, fun id hid hA => ?_, fun t => put_rep (fun t => (hrep t).mono hpost.le) hsz o.dst hp t, by rw [put_size]; exact hsz, by rw [put_defers]; exact hdef, hbel.trans hpost.below, hS.post hpost⟩
      · rw [hpost.H, hH, getH_on]
      · have hge := nxt_ge eff st.n
        rcases (hpost.A id).1 hA with h | h
        · exact hfresh id (by have : nxt eff st.n ≤ id := hid; omega) h
        · obtain ⟨p, hp, rfl⟩ := List.mem_map.1 h
          have : nxt eff st.n ≤ p.1 := hid
          have := hge.2 p hp
          omega
    have hn : ∀ q, q < 8 → ¬ c.A (st.n + q) := fun q _ => hfresh _ (by omega)
    have joined : ∀ v, (b = true → step1 P T o (getT st.tm) (getH st.H) st.n b fun pv eff => pv = v ∧ eff = []) → runs P T nt ops.toList l ⟨putT nt st.tm o.dst (.opt b v), st.H, st.n⟩ K →
        if b = true then o.wp P a c.w (wpList P ops Q l) Q ∨ (o.asks P a c.w ∧ LetsOut Q) else wpList P ops Q l (a.put o.dst undef) c.w := fun v h2 h3 => by
      cases b with
      | true =>
        rw [if_pos rfl]
        refine .inl ?_
        have h4 := h2 rfl
        rw [← hH] at h4
        refine step1_ok hT hok hn hrep h4 _ _ fun pv eff u c' hk hp hpost => ?_
        obtain ⟨rfl, rfl⟩ := hk
        exact after (.opt true pv) [] u c' h3 (.opt _ _ _ _ (fun _ => hp) (fun h => by cases h)) hpost
      | false =>
        rw [if_neg (by simp)]
        exact runs_ok hT hQ l _ _ _ h3 ⟨c, rfl, hH, hok, hfresh, fun t => put_rep hrep hsz o.dst (.opt _ _ _ _ (fun h => by cases h) (fun _ => rfl)) t, by rw [put_size]; exact hsz, by rw [put_defers]; exact hdef, hbel, hS⟩
    split at h1
    · rename_i hg
      obtain rfl := h0 hg
      rw [if_pos rfl]
      refine .inl ?_
      rw [← hH] at h1
      refine step1_ok hT hok hn hrep h1 _ _ fun pv eff u c' hk hp hpost => ?_
      exact after pv eff u c' hk hp hpost
    · split at h1
      · exact joined _ h1.1 h1.2
      · rcases h1 with ⟨v, h2, h3⟩ | ⟨v, E, h2, h3⟩
        · exact joined v h2 h3
        · cases b with
          | true =>
            rw [if_pos rfl]
            refine .inl ?_
            have h4 := h2 rfl
            rw [← hH] at h4
            refine step1_ok hT hok hn hrep h4 _ _ fun pv eff u c' hk hp hpost => ?_
            obtain ⟨rfl, rfl⟩ := hk
            exact after (.opt true pv) eff u c' h3.2 (.opt _ _ _ _ (fun _ => hp) (fun h => by cases h)) hpost
          | false =>
            rw [if_neg (by simp)]
            refine runs_ok hT hQ l _ _ _ h3.2 ⟨c, rfl, ?_, hok, fun id hid => hfresh id (Nat.le_trans (nxt_ge E st.n).1 hid), fun t => put_rep hrep hsz o.dst (.opt _ _ _ _ (fun h => by cases h) (fun _ => rfl)) t, by rw [put_size]; exact hsz, by rw [put_defers]; exact hdef, hbel, hS⟩
            rw [hH, getH_on]
            exact (on_same E _ (h3.1 rfl)).symm

/-! ### Code -/
def SWp (P : Program) (nt n0 : Nat) (c : Code) (Q : Exit → St → Prop) (st : St) : Prop := ∀ (S : Fr n0) (B : Nat) (W0 : World) (a : Act) (w : World), Sim S B nt W0 st a w → c.wp P (fun e a' w' => ∃ st', Q e st' ∧ Sim S B nt W0 st' a' w') a w
def thn (K : St → Prop) (Q : Exit → St → Prop) : Exit → St → Prop
  | .normal, st => K st
  | e, st => Q e st
def inBlk (id : Nat) (Q : Exit → St → Prop) : Exit → St → Prop
  | .exit id', st => if id' = id then Q .normal st else Q (.exit id') st
  | e, st => Q e st
variable {Q : Exit → St → Prop} {st : St}

theorem swp_mono {c : Code} {Q' : Exit → St → Prop} (h : SWp P nt n0 c Q st) (hq : ∀ e st, Q e st → Q' e st) : SWp P nt n0 c Q' st := fun S B W0 a w hs => wp_mono (h S B W0 a w hs) fun e a w ⟨st', h1, h2⟩ => ⟨st', hq _ _ h1, h2⟩
theorem swp_skip (h : Q .normal st) : SWp P nt n0 .skip Q st := fun S B W0 a w hs => wp_skip ⟨st, h, hs⟩
theorem swp_exit {id : Nat} (h : Q (.exit id) st) : SWp P nt n0 (.exit id) Q st := fun S B W0 a w hs => wp_exit ⟨st, h, hs⟩
theorem swp_ret (h : Q .ret st) : SWp P nt n0 .ret Q st := fun S B W0 a w hs => wp_ret ⟨st, h, hs⟩
theorem swp_seq {x y : Code} (h : ∀ K : St → Prop, (∀ st, SWp P nt n0 y Q st → K st) → SWp P nt n0 x (thn K Q) st) : SWp P nt n0 (.seq x y) Q st := fun S B W0 a w hs => by
  refine wp_seq (wp_mono (h (SWp P nt n0 y Q) (fun _ h => h) S B W0 a w hs) ?_)
  rintro e a' w' ⟨st', h1, h2⟩
  cases e with
  | normal => exact h1 S B W0 a' w' h2
  | _ => exact ⟨st', h1, h2⟩
theorem swp_cond {x : Operand} {c d : Code} {t : Bool} (hx : ev (fun _ => none) (getT st.tm) 0 x = .bool t) (h1 : t = true → SWp P nt n0 c Q st) (h2 : t = false → SWp P nt n0 d Q st) : SWp P nt n0 (.cond x c d) Q st := fun S B W0 a w hs => by
  obtain ⟨cx, rfl, hH, hok, hfresh, hrep, hsz, hdef, hbel, hS⟩ := hs
  have hv : a.eval x = .bool t := by
    cases x with
    | tmp i =>
      have := hrep i
      simp only [ev] at hx
      rw [hx] at this
      show a.tmps.getD i undef = _
      generalize a.tmps.getD i undef = v at this
      cases this
      rfl
    | const v =>
      have := cst_ok (c := cx) [] (by simp) v false
      simp only [ev] at hx
      rw [hx] at this
      cases this
      rfl
    | func f => cases hx
    | global g => cases hx
  exact wp_cond_split hv (fun ht => h1 ht S B W0 a cx.w ⟨cx, rfl, hH, hok, hfresh, hrep, hsz, hdef, hbel, hS⟩) (fun ht => h2 ht S B W0 a cx.w ⟨cx, rfl, hH, hok, hfresh, hrep, hsz, hdef, hbel, hS⟩)
theorem swp_block {id : Nat} {c : Code} (h : SWp P nt n0 c (inBlk id Q) st) : SWp P nt n0 (.block id c) Q st := fun S B W0 a w hs => by
  refine wp_block (wp_mono (h S B W0 a w hs) ?_)
  rintro e a' w' ⟨st', h1, h2⟩
  cases e with
  | exit id' =>
    show if id' = id then _ else _
    have h1' : if id' = id then Q .normal st' else Q (.exit id') st' := h1
    split
    · rename_i he
      rw [if_pos he] at h1'
      exact ⟨st', h1', h2⟩
    · rename_i he
      rw [if_neg he] at h1'
      exact ⟨st', h1', h2⟩
  | _ => exact ⟨st', h1, h2⟩
theorem swp_region (hT : TyOk P T) {id : Nat} {l : List Oper} (h : runs P T nt l l st fun st' => Q .normal st') : SWp P nt n0 (.region id l.toArray false) Q st := fun S B W0 a w hs =>
  wp_region_list (by
    have : l.toArray.toList = l := rfl
    exact runs_ok hT (K := fun st' => Q .normal st') (fun st' a' w' hk hs' => ⟨st', hk, hs'⟩) l st a w (by rw [this]; exact h) hs)

/-! ### What may be forgotten -/
def lo1 (k : Nat) : PV → Bool
  | .sl id _ _ _ => id < k
  | .ptr id _ _ _ => id < k
  | .asl id _ _ => id < k
  | .yld id => id < k
  | .fn _ (_ :: _) | .agg _ | .tup _ | .opt _ _ => false
  | _ => true
def PV.lo (k : Nat) : PV → Bool
  | .fn _ caps => caps.all (lo1 k)
  | .agg cs => cs.all (lo1 k)
  | .tup cs => cs.all (lo1 k)
  | p => lo1 k p
def Cells.lo (k : Nat) : Cells → Bool
  | .ints _ _ => true
  | .rows _ rs => rs.all fun r => r.all (lo1 k)
  | .lp _ ps => ps.all (PV.lo k)
def Blk.lo (k : Nat) (b : Blk) : Bool := !b.box || b.cs.lo k

structure Weak (n0 k : Nat) (s s' : St) : Prop where
  tm : ∀ p ∈ s'.tm, getT s.tm p.1 = p.2 ∧ p.2.lo k = true
  H : ∀ p ∈ s'.H, getH s.H p.1 = p.2 ∧ (∀ b, p.2 = some b → b.lo k = true ∧ p.1 < k)
  n : s'.n = k
  lo : n0 ≤ k
end Go.Pv
