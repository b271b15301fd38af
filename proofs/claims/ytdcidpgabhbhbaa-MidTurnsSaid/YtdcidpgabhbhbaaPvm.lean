import Derived.Test.YtdcidpgabhbhbaaPvl
namespace Go.Pv
set_option linter.unusedVariables false
set_option linter.unusedSimpArgs false
open Go Go.RowKit
variable {P : Program} {T : Ty} {o : Oper} {a : Act} {c : Cx} {B n : Nat} {tm : Nat → PV} {K : PV → Eff → Prop}

theorem args_ok {ρ : TypeId → Operand → PV} (hρ : ∀ t x, Rep c false (ρ t x) (a.eval x)) : ∀ (xs : List Operand) (ts : List TypeId), RepL c false (argsP ρ xs ts) (xs.map a.eval)
  | [], _ => .nil
  | x :: xs, [] => .cons (hρ 0 x) (args_ok hρ xs [])
  | x :: xs, t :: ts => .cons (hρ t x) (args_ok hρ xs ts)

theorem grown_below {w w' : World} {row : Option Nat} (h : Below w.heap.size w w') : w.grownBy w' row := ⟨h.os, h.tape, h.output, h.size, fun j hj _ => h.block j hj⟩

theorem RepL.app {q : Bool} {ps ps' : List PV} {us us' : List Value} (h : RepL c q ps us) (h' : RepL c q ps' us') : RepL c q (ps ++ ps') (us ++ us') := by
  refine ⟨by simp [h.1, h'.1], fun i p u h1 h2 => ?_⟩
  by_cases hi : i < ps.length
  · rw [List.getElem?_append_left hi] at h1
    rw [List.getElem?_append_left (by rw [← h.1]; exact hi)] at h2
    exact h.2 i p u h1 h2
  · rw [List.getElem?_append_right (by omega)] at h1
    rw [List.getElem?_append_right (by have := h.1; omega), ← h.1] at h2
    exact h'.2 _ p u h1 h2

theorem scal1_rep {c c' : Cx} {q q' : Bool} {p : PV} {v : Value} (h : scal1 p = true) (r : Rep c q p v) : Rep c' q' p v := by
  cases r <;> first | (cases h; done) | constructor
theorem scal_rep {c c' : Cx} {q q' : Bool} {p : PV} {v : Value} (h : p.scal = true) (r : Rep c q p v) : Rep c' q' p v := by
  cases p with
  | agg cs =>
    cases r with
    | agg _ _ vs h1 h2 => exact .agg _ _ _ h1 fun i p v h3 h4 => scal1_rep (List.all_eq_true.1 h p (List.mem_of_getElem? h3)) (h2 i p v h3 h4)
  | tup cs =>
    cases r with
    | tup _ _ vs h1 h2 => exact .tup _ _ _ h1 fun i p v h3 h4 => scal1_rep (List.all_eq_true.1 h p (List.mem_of_getElem? h3)) (h2 i p v h3 h4)
  | _ => exact scal1_rep h r

theorem does_call (hok : HeapOk c B) {ρ : TypeId → Operand → PV} (hρ : ∀ t x, Rep c false (ρ t x) (a.eval x)) {cl : Call} {f : Operand} (hop : o.op = .call cl) (hcl : cl.callee = .value f) {g : Nat} {caps : List PV} (hf : ρ 0 f = .fn g caps)
    (h : frzA c.H (argsP ρ cl.args.toList cl.argTypes.toList ++ caps) fun ps is => ∃ r, PCall P g ps r ∧ (if r.scal then K r [] else K r (is.map fun i => (i, none)))) : Does P o a c B K := fun next Q hnext => by
  have hfr := hρ 0 f
  rw [hf] at hfr
  obtain ⟨cv, hcv, hcaps⟩ : ∃ cv : Array Value, a.eval f = .func (.func g) #[] cv ∧ RepL c false caps cv.toList := by
    generalize a.eval f = v at hfr
    cases hfr with
    | fn _ _ _ vs h1 h2 => exact ⟨vs, rfl, repL_of h1 h2⟩
  obtain ⟨ps, is, ⟨r, ⟨⟨fn, h1, h2, h3⟩, hcall⟩, hK⟩, hA, hl⟩ := frzA_ok hok _ _ _ ((args_ok hρ cl.args.toList cl.argTypes.toList).app hcaps) h
  have hrun : (execOp a.eval o).run P c.w = .ok (.enter g (cl.args.map a.eval ++ cv)) c.w := by
    simp only [execOp, hop, resolve, hcl, hcv, Deferred.ofValue, Sem.run_bind, Sem.run_pure, Result.andThen_ok, invoke, callFunc, program, Sem.run, h1, h2, h3]
    simp
  let S : Nat → Prop := fun b => c.ow b ∧ ∀ id ∈ is, blkOf (c.loc id) ≠ some b
  have hl' := hl S (fun b h => h.1) (fun id hi g hg h => h.2 id hi hg)
  unfold Oper.wp
  rw [hrun]
  refine (hcall c.w (cl.args.map a.eval ++ cv) S (fun b hb => hok.lt b hb.1) ⟨by have := hl'.1; simpa using this, fun i p v hp hv => hl'.2 i p v hp (by rw [← Array.getElem?_toList] at hv; simpa using hv)⟩).mono ?_
  rintro e w' ⟨v, rfl, hr, hb⟩
  show next (a.put o.dst v) w'
  obtain ⟨c', hcw, hloc, how, hpost⟩ := post_world (w' := w') hok (grown_below hb)
  split at hK
  · rename_i hs
    rw [← hcw]
    exact hnext r [] v c' hK (scal_rep hs hr) hpost
  · obtain ⟨c2, k1, k2, k3, k4, k5⟩ := kills_ok is c' hpost.heap fun i hi => (hpost.A i).2 (.inl (let ⟨b, hb⟩ := hA i hi; (hok.ok i b hb).1))
    rw [← hcw, ← k1]
    refine hnext r _ v c2 hK ?_ (hpost.trans k3)
    refine (@Rep.bare (see S w') c2 (fun b hb' hlt => ⟨fun ho => ?_, by rw [k1, hcw]; exact hlt, fun _ => by rw [k1, hcw]; rfl⟩) true rfl _ _ hr).loose
    have ho1 : c.ow b := by rw [← how]; exact k4 b ho
    refine hb' ⟨ho1, fun id hi e => ?_⟩
    obtain ⟨blk, hH⟩ := hA id hi
    refine k5 id hi blk b ?_ (by rw [hloc]; exact e) ho
    rw [hpost.H]
    exact hH

theorem conv_str (hT : TyOk P T) (hok : HeapOk c B) {s d e : TypeId} {ts td te : TI} {x : Operand} (hop : o.op = .convert s d x) (hs : T s = some ts) (hsk : ts.k = .slice e) (he : T e = some te) (hek : te.k = .int .u8) (hd : T d = some td) (hdk : td.k = .str) {p : PV} (hx : Rep c false p (a.eval x))
    (h : rdS c.H p fun cs => match cs with
          | .ints .u8 xs => K (.str (xs.foldl (fun r n => r.push (UInt8.ofNat n.toNat)) ByteArray.empty)) []
          | .rows _ [] => K (.str ByteArray.empty) []
          | _ => False) : Does P o a c B K := by
  have hsu := (hT.slice s ts e hs hsk).1
  have heu := (hT.int e te .u8 he hek).1
  have hdu := (hT.str d td hd hdk).1
  obtain ⟨cs, hK, hc⟩ := rdS_ok hok hx h
  have hex : execOp a.eval o = (do pure (.value (← convert s d (a.eval x)))) := by simp only [execOp, hop]
  have key : ∀ A n cp, a.eval x = .slice A n cp → (convert s d (.slice A n cp)).run P c.w = (Conv.bytesToString (.slice A n cp)).run P c.w := fun A n cp _ => run_convert_bytes_string c.w s d e A n cp hsu heu hdu
  have hempty : ∀ A cp, (Conv.bytesToString (.slice A 0 cp)).run P c.w = .ok (.string ByteArray.empty) c.w := fun A cp => by
    cases A with
    | none => rfl
    | some ad =>
      have := run_bytesToString (P := P) c.w ad 0 cp [] (by rfl)
      simpa using this
  rcases hc with ⟨h0, A, cp, hv⟩ | ⟨h0, b, off, cp, hv, hcp, hat, hlt⟩
  · refine does_sem hex (by rw [hv, key A 0 cp hv]; exact hempty A cp) (.str ..) (pv := .str ByteArray.empty) ?_ hok
    split at hK
    · rename_i xs
      have : xs = [] := List.eq_nil_of_length_eq_zero h0
      subst this
      exact hK
    · exact hK
    · exact hK.elim
  · split at hK
    · rename_i xs
      refine does_sem hex (by
        rw [hv, key _ _ _ hv]
        refine run_bytesToString (P := P) c.w ⟨b, off, none⟩ _ cp xs ?_
        have hl : (loadCells ⟨b, off, none⟩ (xs.map (Value.int .u8)).length).run P c.w = .ok (xs.map (Value.int .u8)).toArray c.w := run_loadCells_list (P := P) c.w ⟨b, off, none⟩ (xs.map (Value.int .u8)) (fun j v hj => by
          have hj' : j < xs.length := by
            rcases Nat.lt_or_ge j xs.length with h | h
            · exact h
            · rw [List.getElem?_eq_none (by simpa using h)] at hj; cases hj
          obtain ⟨v', h1, h2, _⟩ := hat j 0 hj' (by simp [Cells.w])
          rw [Addr.add_lit]
          simp only [Cells.w, Nat.mul_one, Nat.add_zero] at h1
          rw [h1]
          cases h2
          simp [hj'] at hj
          subst hj
          simp [hj'])
        simpa [Cells.len] using hl) (.str ..) hK hok
    · exact absurd h0 (by simp [Cells.len])
    · exact hK.elim

theorem under_of (hT : TyOk P T) {t : TypeId} {ti : TI} (ht : T t = some ti) : ∃ d, P.underlying t = some d := by
  cases h : ti.k.agg with
  | true => obtain ⟨d, hd, _⟩ := agg_of hT ht h; exact ⟨d, hd⟩
  | false => obtain ⟨d, hd, _⟩ := plain_of hT ht h; exact ⟨d, hd⟩

theorem does_index (hT : TyOk P T) (hok : HeapOk c B) {t m e : TypeId} {x ix : Operand} (hop : o.op = .index t x ix) {ti te : TI} (ht : T t = some ti) (hk : ti.k = .arr m e) (hte : T e = some te) {k : IntKind} {i : Int} {cs : List PV} (hx : Rep c false (.agg cs) (a.eval x)) (hi : a.eval ix = .int k i) (h0 : 0 ≤ i) (h1 : i < m)
    (h : if te.k.agg then i.toNat * te.sz + te.sz ≤ cs.length ∧ K (.agg ((cs.drop (i.toNat * te.sz)).take te.sz)) [] else ∃ v, cs[i.toNat * te.sz]? = some v ∧ K v []) : Does P o a c B K := by
  have hu := hT.arr t ti m e ht hk
  obtain ⟨vs, hv, hr⟩ : ∃ vs : Array Value, a.eval x = .agg vs ∧ RepL c false cs vs.toList := by
    generalize a.eval x = v at hx
    cases hx with
    | agg _ _ vs h1 h2 => exact ⟨vs, rfl, repL_of h1 h2⟩
  have hex : execOp a.eval o = (do pure (.value (← Instr.index t (.agg vs) (.int k i)))) := by simp only [execOp, hop, hv, hi]
  have hidx : ∀ {r : Value}, (part e vs (i.toNat * te.sz)).run P c.w = .ok r c.w → (Instr.index t (.agg vs) (.int k i)).run P c.w = .ok r c.w := fun hp => by
    simp only [Instr.index, asIntOf, Sem.run_bind, Sem.run_pure, Result.andThen_ok, run_underlying hu, h0, h1, and_self, if_true, sizeOf_run hT hte, hp]
  split at h
  · rename_i hag
    obtain ⟨hl, hK⟩ := h
    obtain ⟨d, hd, hd'⟩ := agg_of hT hte hag
    refine does_sem (v := .agg (vs.extract (i.toNat * te.sz) (i.toNat * te.sz + te.sz))) hex (hidx (by
      simp only [part, Sem.run_bind, isAgg_run hd, hd', Result.andThen_ok, if_true, sizeOf_run hT hte, Sem.run_pure])) (.agg false _ _ ?_ fun j p v hp hv => ?_) hK hok
    · have := hr.1
      simp at this ⊢
      omega
    · have hj : j < te.sz := by
        rcases Nat.lt_or_ge j te.sz with h | h
        · exact h
        · rw [List.getElem?_eq_none (by simp; omega)] at hp; cases hp
      rw [List.getElem?_take_of_lt hj, List.getElem?_drop] at hp
      refine hr.2 _ p v hp ?_
      rw [Array.getElem?_extract] at hv
      split at hv
      · rw [Array.getElem?_toList]; exact hv
      · cases hv
  · rename_i hag
    obtain ⟨v, hc, hK⟩ := h
    obtain ⟨d, hd, hd', _⟩ := plain_of hT hte (by simpa using hag)
    have hlt : i.toNat * te.sz < vs.toList.length := by
      rw [← hr.1]
      exact (List.getElem?_eq_some_iff.1 hc).1
    have e1 : vs.toList[i.toNat * te.sz]? = some vs.toList[i.toNat * te.sz] := List.getElem?_eq_getElem hlt
    refine does_sem (v := vs.toList[i.toNat * te.sz]) hex (hidx (by
      simp only [part, Sem.run_bind, isAgg_run hd, hd', Result.andThen_ok, Bool.false_eq_true, if_false]
      rw [Array.getElem?_toList] at e1
      rw [e1]
      rfl)) (hr.2 _ _ _ hc e1) hK hok

theorem sl0_run (hT : TyOk P T) {t e : TypeId} {tt te : TI} (ht : T t = some tt) (hk : tt.k = .slice e) (hte : T e = some te) (A : Option Addr) (m cp : Nat) (w : World) : (Instr.sliceAt t (.slice A m cp) none (some (.int .i64 0)) (some (.int .i64 0))).run P w = .ok (.slice A 0 0) w := by
  have hu := (hT.slice t tt e ht hk).1
  simp [Instr.sliceAt, run_underlying hu, Instr.slice, Instr.sliceBounds, Instr.sliceBound, asIntOf, sizeOf_run hT hte]

theorem does_sl0 (hT : TyOk P T) (hok : HeapOk c B) {t e : TypeId} {x h m : Operand} (hop : o.op = .slice t x none (some h) (some m)) {tt te : TI} (ht : T t = some tt) (hk : tt.k = .slice e) (hte : T e = some te) {p : PV} (hx : Rep c false p (a.eval x)) (hh : a.eval h = .int .i64 0) (hm : a.eval m = .int .i64 0)
    (hs : sl0 c.H p fun v => K v []) : Does P o a c B K := by
  have hex : ∀ A m cp, a.eval x = .slice A m cp → execOp a.eval o = (do pure (.value (← Instr.sliceAt t (.slice A m cp) none (some (.int .i64 0)) (some (.int .i64 0))))) := fun A m cp hv => by simp only [execOp, hop, hv, Option.map_some, Option.map_none, hh, hm]
  have z : ∀ cs : Cells, (cs.sub 0 0).len = 0 := fun cs => by cases cs <;> simp [Cells.sub, Cells.len]
  cases p <;> try (exact hs.elim)
  case ro cs =>
    rcases ro_at hx with ⟨_, A, cp, hv⟩ | ⟨b, off, cp, hv, _⟩
    · exact does_sem (hex _ _ _ hv) (sl0_run hT ht hk hte _ _ _ c.w) (.nil false _ _ (z cs)) hs hok
    · exact does_sem (hex _ _ _ hv) (sl0_run hT ht hk hte _ _ _ c.w) (.nil false _ _ (z cs)) hs hok
  case nil cs =>
    obtain ⟨A, hv, h0⟩ : ∃ A, a.eval x = .slice A 0 0 ∧ cs.len = 0 := by
      generalize a.eval x = v at hx
      cases hx
      exact ⟨_, rfl, by assumption⟩
    exact does_sem (hex _ _ _ hv) (sl0_run hT ht hk hte _ _ _ c.w) (.nil false _ _ h0) hs hok
  case sl id off n tot =>
    unfold sl0 at hs
    dsimp only at hs
    split at hs
    · cases hx with
      | sl _ _ _ _ _ ha hsh hkk =>
        obtain ⟨A, cp, hv, _⟩ := hsh
        exact does_sem (hex _ _ _ hv) (sl0_run hT ht hk hte _ _ _ c.w) (.nil false _ _ (z _)) hs hok
    · exact hs.elim

def PV.slLen : PV → Option Nat
  | .ro cs => some cs.len
  | .nil _ => some 0
  | .sl _ _ n _ => some n
  | _ => none
theorem slice_shape {p : PV} {v : Value} (h : Rep c false p v) {n : Nat} (hn : p.slLen = some n) : ∃ A cp, v = .slice A n cp := by
  cases h <;> cases hn
  · exact ⟨_, _, rfl⟩
  · rename_i cs A cp h
    exact ⟨A, cp, by rw [h]⟩
  · exact ⟨_, _, rfl⟩
  · rename_i hs _
    obtain ⟨A, cp, h, _⟩ := hs
    exact ⟨A, cp, h⟩

theorem does_blt (hok : HeapOk c B) {cl : Call} (hop : o.op = .call cl) {b : Builtin} (hcl : cl.callee = .builtin b) {s : Sem Value} (hs : ∀ cs, builtin b cl.argTypes o.type cs (cl.args.map a.eval) = (do pure (.value (← s)))) {v : Value} {pv : PV} (hr : s.run P c.w = .ok v c.w) (hp : Rep c false pv v) (hK : K pv []) : Does P o a c B K := by
  refine does_val (v := v) ?_ hp hK hok
  simp only [execOp, hop, resolve, hcl, Sem.run_bind, Sem.run_pure, Result.andThen_ok, invoke]
  rw [hs]
  simp [hr]
end Go.Pv
