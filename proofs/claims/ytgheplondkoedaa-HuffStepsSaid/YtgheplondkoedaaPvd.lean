import Derived.Test.YtgheplondkoedaaPvc
import Derived.ChangeKeysEq
namespace Go.Pv
set_option linter.unusedVariables false
set_option linter.unusedSimpArgs false
open Go Go.RowKit

def Does (P : Program) (o : Oper) (a : Act) (c : Cx) (B : Nat) (K : PV → Eff → Prop) : Prop :=
  ∀ (next : Act → World → Prop) (Q : Exit → Act → World → Prop), (∀ pv eff v c', K pv eff → Rep c' false pv v → Post c c' B eff → next (a.put o.dst v) c'.w) → o.wp P a c.w next Q

variable {P : Program} {T : Ty} {o : Oper} {a : Act} {c : Cx} {B n : Nat} {tm : Nat → PV} {K : PV → Eff → Prop}

theorem Post.refl (hok : HeapOk c B) : Post c c B [] := ⟨.refl c, hok, rfl, fun id => by simp, Below.refl _ _, fun _ _ h => h, fun b h => ⟨h, rfl, fun h => h⟩⟩
theorem does_val {v : Value} {pv : PV} (hr : (execOp a.eval o).run P c.w = .ok (.value v) c.w) (hrep : Rep c false pv v) (hk : K pv []) (hok : HeapOk c B) : Does P o a c B K := fun next Q h => by
  unfold Oper.wp
  rw [hr]
  exact h pv [] v c hk hrep (.refl hok)
theorem does_sem {v : Value} {pv : PV} {s : Sem Value} (he : execOp a.eval o = (do pure (.value (← s)))) (hr : s.run P c.w = .ok v c.w) (hrep : Rep c false pv v) (hk : K pv []) (hok : HeapOk c B) : Does P o a c B K :=
  does_val (by rw [he]; simp [hr]) hrep hk hok

theorem cst1_ok (em : Option Cells) (h : ∀ cs, em = some cs → cs.len = 0) (v : Value) (q : Bool) : Rep c q (cst1 em v) v := by
  unfold cst1
  split
  · refine .nil q _ none ?_
    cases em with
    | none => rfl
    | some cs => exact h cs rfl
  · exact .int ..
  · exact .bool ..
  · exact .str ..
  · exact .nilf _
  · exact .any ..
theorem cstL_ok {q : Bool} : ∀ (em : List (Option Cells)) (h : ∀ cs, some cs ∈ em → cs.len = 0) (vs : List Value), (cstL em vs).length = vs.length ∧ ∀ (i : Nat) p v, (cstL em vs)[i]? = some p → vs[i]? = some v → Rep c q p v
  | [], _, [] => by simp [cstL]
  | _ :: _, _, [] => by simp [cstL]
  | [], h, v :: vs => by
    obtain ⟨h1, h2⟩ := cstL_ok (q := q) [] h vs
    refine ⟨by simp [cstL, h1], fun i p u hp hu => ?_⟩
    cases i with
    | zero => simp [cstL] at hp hu; subst hp; subst hu; exact cst1_ok none (fun _ h => by cases h) _ _
    | succ i => simp [cstL] at hp hu; exact h2 i p u hp hu
  | e :: es, h, v :: vs => by
    obtain ⟨h1, h2⟩ := cstL_ok (q := q) es (fun cs hc => h cs (List.mem_cons_of_mem _ hc)) vs
    refine ⟨by simp [cstL, h1], fun i p u hp hu => ?_⟩
    cases i with
    | zero => simp [cstL] at hp hu; subst hp; subst hu; exact cst1_ok e (fun cs hc => h cs (by simp [hc])) _ _
    | succ i => simp [cstL] at hp hu; exact h2 i p u hp hu
theorem cst_ok (em : List (Option Cells)) (h : ∀ cs, some cs ∈ em → cs.len = 0) (v : Value) (q : Bool) : Rep c q (cst em v) v := by
  unfold cst
  split
  · rename_i cs
    obtain ⟨h1, h2⟩ := cstL_ok (c := c) (q := q) em h cs.toList
    exact .agg q _ _ (by simpa using h1) (fun i p v hp hv => h2 i p v hp (by simpa using hv))
  · refine cst1_ok _ (fun cs hc => h cs ?_) _ _
    cases em with
    | nil => simp at hc
    | cons e es => simp at hc; simp [hc]

theorem ev_ok (hT : TyOk P T) (htm : ∀ t, Rep c false (tm t) (a.tmps.getD t undef)) (t : TypeId) (x : Operand) : Rep c false (ev T tm t x) (a.eval x) := by
  cases x with
  | tmp i => exact htm i
  | const v =>
    refine cst_ok _ ?_ v false
    intro cs hcs
    cases ht : T t with
    | none => simp [ht] at hcs
    | some ti => simp [ht] at hcs; exact hT.em t ti ht cs hcs
  | global g => exact .any ..
  | func f => exact .fn false f [] #[] rfl (fun i q v h => by simp at h)

/-! ### Arithmetic -/
theorem wpk {k : IntKind} {a b : Int} (h : a = b) : Value.int k a = .int k b := by rw [h]
theorem bytes_eq (a b : ByteArray) : (a.toList == b.toList) = decide (a = b) := by
  by_cases h : a = b
  · subst h; simp
  · rw [decide_eq_false h, beq_eq_false_iff_ne]
    intro e
    rw [ByteArray.toList_eq, ByteArray.toList_eq] at e
    have e2 := congrArg List.toArray e
    simp only [Array.toArray_toList] at e2
    exact h (congrArg ByteArray.mk e2)

theorem equalIn_bool {t : TypeId} (d : Nat) (hu : P.underlying t = some .bool) (x y : Bool) (w : World) : (Op.equalIn (d + 1) t (.bool x) (.bool y)).run P w = .ok (x == y) w := by
  unfold Op.equalIn
  simp [run_underlying hu]
theorem equal_bool {t : TypeId} (hu : P.underlying t = some .bool) (x y : Bool) (w : World) : (Op.equal t (.bool x) (.bool y)).run P w = .ok (x == y) w := equalIn_bool 9999 hu x y w
theorem eq1_plain {ti : TI} {x y : PV} {r : Bool} (h : eq1 ti.k x y = some r) : (match ti.k with
    | .int _ => true
    | .bool => true
    | _ => false) = true := by
  unfold eq1 at h
  split at h
  · split at h
    · rename_i hk; rw [hk]
    · cases h
  · split at h
    · rename_i hk; rw [hk]
    · cases h
  · cases h
theorem eqF_plain : ∀ {fs : List (TypeId × Nat)} {a b : List PV} {r : Bool}, eqF T fs a b = some r → plainF T fs = true
  | [], _, _, _, _ => rfl
  | p :: fs, a, b, r, h => by
    unfold eqF at h
    split at h
    · rename_i ti x y ht _ _
      split at h
      · rename_i r1 h1
        split at h
        · rename_i q hq
          have h2 := eqF_plain hq
          unfold plainF at h2 ⊢
          rw [List.all_cons, h2, Bool.and_true, ht]
          exact eq1_plain h1
        · cases h
      · cases h
    · cases h
theorem eqF_run (hT : TyOk P T) {q : Bool} {xs ys : Array Value} {a b : List PV} (ha : List.length a = xs.size) (hb : List.length b = ys.size) (hra : ∀ (i : Nat) p v, a[i]? = some p → xs[i]? = some v → Rep c q p v) (hrb : ∀ (i : Nat) p v, b[i]? = some p → ys[i]? = some v → Rep c q p v) (d : Nat) (w : World) :
    ∀ (F : List Field) (r : Bool), (∀ f ∈ F, f.name ≠ "_") → eqF T (F.map fun f => (f.type, f.offset)) a b = some r → (Op.eqFields (d + 1) xs ys F).run P w = .ok r w
  | [], r, _, h => by
    have h : some true = some r := h
    cases h
    simp [Op.eqFields]
  | f :: F, r, hn, h => by
    simp only [List.map_cons, eqF] at h
    split at h
    · rename_i ti x y ht hx hy
      split at h
      · rename_i r1 h1
        split at h
        · rename_i q2 hq
          cases h
          have hi : f.offset < xs.size := by rw [← ha]; exact (List.getElem?_eq_some_iff.1 hx).1
          have hj : f.offset < ys.size := by rw [← hb]; exact (List.getElem?_eq_some_iff.1 hy).1
          obtain ⟨vx, ex⟩ : ∃ v, xs[f.offset]? = some v := ⟨_, Array.getElem?_eq_getElem hi⟩
          obtain ⟨vy, ey⟩ : ∃ v, ys[f.offset]? = some v := ⟨_, Array.getElem?_eq_getElem hj⟩
          have rx := hra _ _ _ hx ex
          have ry := hrb _ _ _ hy ey
          have ih := eqF_run hT ha hb hra hrb d w F q2 (fun g hg => hn g (by simp [hg])) hq
          have key : P.plainKey f.type = true ∧ (Op.equalIn (d + 1) f.type vx vy).run P w = .ok r1 w := by
            unfold eq1 at h1
            split at h1
            · rename_i j m j' m'
              split at h1
              · rename_i k hk
                obtain ⟨hu, _⟩ := hT.int _ _ _ ht hk
                split at h1
                · rename_i hj
                  subst hj
                  cases h1
                  have e1 : vx = .int j' m := by cases rx; rfl
                  have e2 : vy = .int j' m' := by cases ry; rfl
                  rw [e1, e2]
                  refine ⟨by simp [Program.plainKey, hu], ?_⟩
                  rw [run_equalIn_int w d f.type j' k m m' hu]
                  rfl
                · cases h1
              · cases h1
            · rename_i m m'
              split at h1
              · rename_i hk
                obtain ⟨hu, _⟩ := hT.bool _ _ ht hk
                cases h1
                have e1 : vx = .bool m := by cases rx; rfl
                have e2 : vy = .bool m' := by cases ry; rfl
                rw [e1, e2]
                exact ⟨by simp [Program.plainKey, hu], run_equalIn_bool w d f.type m m' hu⟩
              · cases h1
            · cases h1
          unfold Op.eqFields
          rw [if_pos (hn f (by simp)), Sem.run_bind, run_part_plain w key.1 ex, Result.andThen_ok, Sem.run_bind, run_part_plain w key.1 ey, Result.andThen_ok, Sem.run_bind, key.2, Result.andThen_ok]
          cases r1 with
          | false => simp
          | true => simpa using ih
        · cases h
      · cases h
    · cases h
theorem bin_ok (hT : TyOk P T) {op : BinOp} {xt : TypeId} {xo yo : Operand} {x y : PV} {u v : Value} {K : PV → Prop} (hx : Rep c false x u) (hy : Rep c false y v) (h : bin T xt op x y K) :
    ∃ r pv, (do eqGuard op xt xo yo u v; binOp op xt u v : Sem Value).run P c.w = .ok r c.w ∧ Rep c false pv r ∧ K pv := by
  unfold bin at h
  split at h
  · rename_i k i k' j
    cases hx; cases hy
    have hg : (eqGuard op xt xo yo (.int k i) (.int k' j)).run P c.w = .ok () c.w := by
      unfold eqGuard
      cases op <;> rfl
    rw [Sem.run_bind, hg, Result.andThen_ok]
    split at h
    · unfold sh2 at h
      refine ⟨_, _, ?_, .int _ _ _, h.2⟩
      simp [binOp, Op.shift, Int.not_lt.2 h.1]
    · unfold sh2 at h
      refine ⟨_, _, ?_, .int _ _ _, h.2⟩
      simp [binOp, Op.shift, Int.not_lt.2 h.1]
    · rename_i h1 h2
      obtain ⟨rfl, h⟩ := h
      cases op <;> simp only [ops2] at h
      case add => exact ⟨_, _, by simp [binOp, Op.intArith], .int .., h⟩
      case sub => exact ⟨_, _, by simp [binOp, Op.intArith], .int .., h⟩
      case mul => exact ⟨_, _, by simp [binOp, Op.intArith], .int .., h⟩
      case quo => exact ⟨_, _, by simp [binOp, Op.intDiv, h.1], .int .., h.2⟩
      case rem => exact ⟨_, _, by simp [binOp, Op.intDiv, h.1], .int .., h.2⟩
      case and => exact ⟨_, _, by simp [binOp, Op.intBits], .int .., h⟩
      case or => exact ⟨_, _, by simp [binOp, Op.intBits], .int .., h⟩
      case xor => exact ⟨_, _, by simp [binOp, Op.intBits], .int .., h⟩
      case eql => exact ⟨_, _, by simp [binOp, Op.intCmp]; rfl, .bool .., h⟩
      case neq => exact ⟨_, _, by simp [binOp, Op.intCmp, bne]; rfl, .bool .., h⟩
      case lss => exact ⟨_, _, by simp [binOp, Op.intCmp], .bool .., h⟩
      case leq => exact ⟨_, _, by simp [binOp, Op.intCmp], .bool .., h⟩
      case gtr => exact ⟨_, _, by simp [binOp, Op.intCmp], .bool .., h⟩
      case geq => exact ⟨_, _, by simp [binOp, Op.intCmp], .bool .., h⟩
  · rename_i s t
    cases hx; cases hy
    split at h
    · rename_i ti hti
      obtain ⟨hk, h⟩ := h
      obtain ⟨hu, _⟩ := hT.bool xt ti hti hk
      have hg : (eqGuard op xt xo yo (.bool s) (.bool t)).run P c.w = .ok () c.w := by
        unfold eqGuard
        cases op <;> rfl
      rw [Sem.run_bind, hg, Result.andThen_ok]
      split at h
      · refine ⟨_, _, ?_, .bool .., h⟩
        show (do pure (.bool (← Op.equal xt (.bool s) (.bool t))) : Sem Value).run P c.w = _
        rw [Sem.run_bind, equal_bool hu]; rfl
      · refine ⟨_, _, ?_, .bool .., h⟩
        show (do pure (.bool (!(← Op.equal xt (.bool s) (.bool t)))) : Sem Value).run P c.w = _
        rw [Sem.run_bind, equal_bool hu]; rfl
      · exact h.elim
    · exact h.elim
  · rename_i s t
    cases hx; cases hy
    have hg : (eqGuard op xt xo yo (.string s) (.string t)).run P c.w = .ok () c.w := by
      unfold eqGuard
      cases op <;> rfl
    rw [Sem.run_bind, hg, Result.andThen_ok]
    split at h
    · exact ⟨_, _, by simp [binOp, Op.stringOp, bytes_eq], .bool .., h⟩
    · exact ⟨_, _, by simp [binOp, Op.stringOp, bytes_eq], .bool .., h⟩
    · refine ⟨_, _, ?_, .str .., h.2⟩
      have := h.1
      have hm : ¬ (IntKind.i64.max < ((s.size + t.size : Nat) : Int)) := by
        show ¬ (9223372036854775807 < _)
        omega
      simp only [binOp, Op.stringOp]
      rw [if_neg hm]
      rfl
    · exact h.elim
  · rename_i a b
    cases hx with
    | agg _ _ xs ha hra =>
    cases hy with
    | agg _ _ ys hb hrb =>
    split at h
    · rename_i ti hti
      split at h
      · rename_i fs hk
        split at h
        · rename_i r hr
          obtain ⟨F, hF, hm, hn, hs, hg⟩ := hT.cmp xt ti fs hti hk (eqF_plain hr)
          subst hm
          have hf : P.underlying xt = some (.struct (P.fieldsOf xt)) := by unfold Program.fieldsOf; rw [hF]
          have hff : P.fieldsOf xt = F := by unfold Program.fieldsOf; rw [hF]
          have hrun : (Op.equalIn 10000 xt (.agg xs) (.agg ys)).run P c.w = .ok r c.w := by
            rw [run_equalIn_struct c.w 9999 xt xs ys hf hs, hff]
            exact eqF_run hT ha hb hra hrb 9998 c.w F.toList r hn hr
          rw [Sem.run_bind, run_eqGuard_agg c.w op xt xo yo xs ys hg, Result.andThen_ok]
          split at h
          · exact ⟨_, _, by rw [run_eql_struct, hrun]; rfl, .bool .., h⟩
          · exact ⟨_, _, by rw [run_neq_struct, hrun]; rfl, .bool .., h⟩
          · exact h.elim
        · exact h.elim
      · exact h.elim
    · exact h.elim
  · exact h.elim

/-! ### Memory that is read -/
def At (c : Cx) (q : Bool) (cs : Cells) (b off : Nat) : Prop := ∀ i j, i < cs.len → j < cs.w → ∃ v, c.w.cell? ⟨b, off + (i * cs.w + j), none⟩ = some v ∧ Rep c q (cs.get i j) v ∧ v.oneCell' = true

theorem plain_of (hT : TyOk P T) {t : TypeId} {ti : TI} (ht : T t = some ti) (hk : ti.k.agg = false) : ∃ d, P.underlying t = some d ∧ aggD d = false ∧ ti.sz = 1 := by
  cases h : ti.k with
  | int k => exact ⟨_, (hT.int t ti k ht h).1, rfl, (hT.int t ti k ht h).2⟩
  | bool => exact ⟨_, (hT.bool t ti ht h).1, rfl, (hT.bool t ti ht h).2⟩
  | str => exact ⟨_, (hT.str t ti ht h).1, rfl, (hT.str t ti ht h).2⟩
  | slice e => exact ⟨_, (hT.slice t ti e ht h).1, rfl, (hT.slice t ti e ht h).2⟩
  | struct fs => simp [h, Tk.agg] at hk
  | arr m e => simp [h, Tk.agg] at hk
  | other => exact hT.other t ti ht h
theorem agg_of (hT : TyOk P T) {t : TypeId} {ti : TI} (ht : T t = some ti) (hk : ti.k.agg = true) : ∃ d, P.underlying t = some d ∧ aggD d = true := by
  cases h : ti.k with
  | struct fs => obtain ⟨F, hF, _⟩ := hT.struct t ti fs ht h; exact ⟨_, hF, rfl⟩
  | arr m e => exact ⟨_, hT.arr t ti m e ht h, rfl⟩
  | _ => simp [h, Tk.agg] at hk
theorem isAgg_run {t : TypeId} {d : TypeDesc} (h : P.underlying t = some d) (w : World) : (isAgg t).run P w = .ok (aggD d) w := by
  cases d <;> simp [isAgg, run_underlying h, aggD]
theorem sizeOf_run (hT : TyOk P T) {t : TypeId} {ti : TI} (ht : T t = some ti) (w : World) : (sizeOf t).run P w = .ok ti.sz w := by
  obtain ⟨i, hi, hs, _⟩ := hT.info t ti ht
  simp [sizeOf, typeInfo, hi, hs]

theorem load_at (hT : TyOk P T) {t : TypeId} {ti : TI} (ht : T t = some ti) {q : Bool} {cs : Cells} {b off i j : Nat} {K : PV → Prop} (hat : At c q cs b off) (h : ldC ti cs i j K) :
    ∃ v pv, (Instr.loadAt t (.pointer (some ⟨b, off + (i * cs.w + j), none⟩))).run P c.w = .ok v c.w ∧ Rep c q pv v ∧ K pv := by
  unfold ldC at h
  split at h
  · rename_i hk
    obtain ⟨d, hd, hd'⟩ := agg_of hT ht hk
    split at h
    · rename_i w rs
      obtain ⟨h1, h2, h3, h4⟩ := h
      have hex : ∀ q', ∃ v, q' < ti.sz → c.w.cell? ⟨b, off + (i * w + (j + q')), none⟩ = some v ∧ Rep c q ((Cells.rows w rs).get i (j + q')) v := by
        intro q'
        by_cases hq : q' < ti.sz
        · obtain ⟨v, hv, hv', _⟩ := hat i (j + q') h1 (show j + q' < w by omega)
          exact ⟨v, fun _ => ⟨hv, hv'⟩⟩
        · exact ⟨undef, fun h => absurd h hq⟩
      let f : Nat → Value := fun q' => Classical.choose (hex q')
      have hf : ∀ q', q' < ti.sz → c.w.cell? ⟨b, off + (i * w + (j + q')), none⟩ = some (f q') ∧ Rep c q ((Cells.rows w rs).get i (j + q')) (f q') := fun q' => Classical.choose_spec (hex q')
      refine ⟨.agg ((List.range ti.sz).map f).toArray, _, ?_, .agg q _ _ ?_ ?_, h4⟩
      · have hl := run_loadCells (P := P) c.w ⟨b, off + (i * w + j), none⟩ ti.sz f (fun q' hq => by rw [Addr.add_lit, show off + (i * w + j) + q' = off + (i * w + (j + q')) by omega]; exact (hf q' hq).1)
        simp only [Instr.loadAt, Instr.sureAddr, loadVar, Sem.run_bind, Sem.run_pure, Result.andThen_ok, isAgg_run hd, hd', sizeOf_run hT ht, Cells.w, if_true, hl]
      · rw [List.length_take, List.length_drop]
        simp only [List.size_toArray, List.length_map, List.length_range]
        omega
      · intro m p v hp hv
        have hm : m < ti.sz := by
          rcases Nat.lt_or_ge m ti.sz with h | h
          · exact h
          · simp [h] at hv
        simp [hm] at hv
        subst hv
        have := (hf m hm).2
        simp only [Cells.get] at this
        rw [List.getElem?_take_of_lt hm, List.getElem?_drop] at hp
        rw [List.getD_eq_getElem?_getD, hp] at this
        exact this
    · exact h.elim
  · rename_i hk
    obtain ⟨d, hd, hd', _⟩ := plain_of hT ht (by simpa using hk)
    obtain ⟨h1, h2, h3⟩ := h
    obtain ⟨v, hc, hr, _⟩ := hat i j h1 h2
    refine ⟨v, _, ?_, hr, h3⟩
    simp only [Instr.loadAt, Instr.sureAddr, loadVar, Sem.run_bind, Sem.run_pure, Result.andThen_ok, isAgg_run hd, hd', Bool.false_eq_true, if_false]
    simp [load, Sem.run, hc]
end Go.Pv
