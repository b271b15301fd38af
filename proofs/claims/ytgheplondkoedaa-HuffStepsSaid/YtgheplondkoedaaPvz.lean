import Derived.Test.YtgheplondkoedaaPvx
namespace Go.Pv
set_option linter.unusedVariables false
set_option linter.unusedSimpArgs false
open Go Go.RowKit
variable {P : Program} {T : Ty} {nt : Nat}
/-! ### A call that gets places of the caller's own: out of a walk of its body -/
theorem eff_mem : ∀ {e : Eff} {H : Nat → Option Blk} {id : Nat} {b : Blk}, e.on H id = some b → id ∈ e.map (·.1) ∨ H id = some b
  | [], H, id, b, h => .inr h
  | (i, x) :: r, H, id, b, h => by
    rcases eff_mem (e := r) h with h1 | h1
    · exact .inl (List.mem_cons_of_mem _ h1)
    · by_cases hi : i = id
      · subst hi; exact .inl (by simp)
      · rw [put_ne _ _ hi] at h1; exact .inr h1
/-- The same of results: tuples may hold structs. -/
def inR1 (L : Nat → Bool) : PV → Bool
  | .agg cs => cs.all (inL1 L)
  | p => inL1 L p
def PV.inR (L : Nat → Bool) : PV → Bool
  | .tup cs => cs.all (inR1 L)
  | p => p.inL L
theorem Rep.cutR {L : Nat → Bool} {c c' : Cx} (h : CutP L c c') {q : Bool} {p : PV} {v : Value} (hl : p.inR L = true) (r : Rep c q p v) : Rep c' q p v := by
  cases p with
  | tup cs =>
    cases r with
    | tup _ _ vs h1 h2 =>
      refine .tup _ cs vs h1 fun i p v h3 h4 => ?_
      have hp : inR1 L p = true := List.all_eq_true.1 hl p (List.mem_of_getElem? h3)
      cases p with
      | agg l => exact (h2 i _ v h3 h4).cutP h hp
      | fn f caps =>
        cases caps with
        | nil => exact (h2 i _ v h3 h4).cutP1 h hp
        | cons => simp [inR1, inL1] at hp
      | _ => exact (h2 i _ v h3 h4).cutP1 h hp
  | _ => exact r.cutP h hl
def fnPostH (T : Ty) (fn : Func) (Hr : List (Nat × Option Blk)) (r : PV) (e : Eff) : Exit → St → Prop := fun x st => (x = .normal ∨ x = .ret) ∧ (resP T (getH st.H) (getT st.tm) fn.results.toList fun vs => r = tupOf vs) ∧
  r.inR (fun id => (e.on (getH Hr) id).isSome) = true ∧ ∀ p ∈ Hr.map (·.1) ++ e.map (·.1), ∀ b, e.on (getH Hr) p = some b → getH st.H p = some b ∧ b.inL (fun id => (e.on (getH Hr) id).isSome) = true
def tupV : List Value → Value
  | [u] => u
  | us => .tuple us.toArray
theorem tup_rep {c : Cx} {ps : List PV} {us : List Value} (h : RepL c false ps us) : Rep c false (tupOf ps) (tupV us) := by
  match us, ps, h with
  | [], [], _ => exact .tup false [] _ rfl (fun i q v h => by simp at h)
  | [u], [q], hl => exact hl.2 0 q u rfl rfl
  | u :: v :: us, p :: q :: qs, hl => exact .tup false _ _ (by simpa using hl.1) (fun i p u h1 h2 => hl.2 i p u h1 (by simpa using h2))
  | [], _ :: _, hl => exact absurd hl.1 (by simp)
  | [_], [], hl => exact absurd hl.1 (by simp)
  | [_], _ :: _ :: _, hl => exact absurd hl.1 (by simp)
  | _ :: _ :: _, [], hl => exact absurd hl.1 (by simp)
  | _ :: _ :: _, [_], hl => exact absurd hl.1 (by simp)
theorem results_run2 {fn : Func} {tmps : Array Value} {us : List Value} {w : World} (h : (fn.results.toList.mapM (rvS tmps)).run P w = .ok us w) : (results fn tmps).run P w = .ok (tupV us) w := by
  have := results_run h
  cases us with
  | nil => exact this
  | cons u us => cases us <;> exact this
theorem hcall_body (hT : TyOk P T) {f : FuncId} {fn : Func} {code : Code} {ps : List PV} {Hr : List (Nat × Option Blk)} {n : Nat} {r : PV} {e : Eff} (hf : P.funcs[f]? = some fn) (hb : fn.body = some code) (hname : (fn.name == "runtime.NumGoroutine") = false) (hlen : ps.length ≤ fn.ntmps)
    (h : SWp P fn.ntmps n code (fnPostH T fn Hr r e) ⟨argT 0 ps, Hr, n⟩) : HCall P f ps Hr n r e := by
  refine ⟨⟨fn, hf, hname, by rw [hb]; rfl⟩, fun c B vs hok hH hfr hargs => ?_⟩
  have hsz : vs.size ≤ fn.ntmps := by rw [← hargs.1]; exact hlen
  refine calls_of_wp hf hb (wp_mono (h ⟨fun _ => False, c⟩ B c.w _ c.w ⟨c, rfl, hH, hok, hfr, fun t => ?_, by simp; omega, rfl, Below.refl _ _, ⟨fun b h => h.elim, .refl _, fun b h => ⟨h, rfl, fun h => h⟩, fun id hA => Nat.lt_of_not_le fun hle => hfr id hle hA⟩⟩) ?_)
  · rw [argT_get, if_neg (by omega), Nat.sub_zero]
    cases hp : ps[t]? with
    | none => exact .any ..
    | some p =>
      have hlt : t < vs.size := by rw [← hargs.1]; exact (List.getElem?_eq_some_iff.1 hp).1
      have hv : vs[t]? = some vs[t] := Array.getElem?_eq_getElem hlt
      have hv' : (vs ++ Array.replicate (fn.ntmps - vs.size) undef)[t]? = some vs[t] := by rw [Array.getElem?_append_left hlt]; exact hv
      rw [Array.getD_eq_getD_getElem?, hv']
      exact hargs.2 t p _ hp hv
  · rintro x a' w' ⟨st, ⟨he, hr, hin, hkeep⟩, cf, rfl, hHf, hokf, _, hrep, _, hdef, hbel, hK⟩
    rw [← hHf] at hr
    obtain ⟨us, qs, h1, h2, h3⟩ := res_ok hT hokf hrep _ _ hr
    have hres := results_run2 h1
    let L : Nat → Bool := fun id => (e.on (getH Hr) id).isSome
    let c' : Cx := { cf with H := e.on (getH Hr), A := fun id => c.A id ∨ id ∈ e.map (·.1) }
    have hk : ∀ id b, e.on (getH Hr) id = some b → cf.H id = some b ∧ b.inL L = true := fun id b hb => by
      have hm : id ∈ Hr.map (·.1) ++ e.map (·.1) := by
        rcases eff_mem hb with h | h
        · exact List.mem_append_right _ h
        · exact List.mem_append_left _ (List.mem_map.2 ⟨_, getH_mem Hr id b h, rfl⟩)
      have := hkeep id hm b hb
      rw [hHf]
      exact this
    have hA : ∀ id b, e.on (getH Hr) id = some b → c.A id ∨ id ∈ e.map (·.1) := fun id b hb => by
      rcases eff_mem hb with h | h
      · exact .inr h
      · rw [← hH] at h; exact .inl (hok.ok id b h).1
    have hcut : CutP L cf c' := ⟨rfl, rfl, rfl, fun id hL _ => by
      obtain ⟨b, hb⟩ := Option.isSome_iff_exists.1 hL
      exact hA id b hb, hk⟩
    have hle : c.Le c' := ⟨hK.le.stable, fun id h => .inl h, fun id b' h h' => hK.le.ids id b' h (hk id b' h').1⟩
    have hheap : HeapOk c' B := by
      refine ⟨fun id blk hb => ?_, fun id blk g hb hg => hokf.own id blk g (hk id blk hb).1 hg, fun i1 i2 b1 b2 g h1 h2 g1 g2 => hokf.inj i1 i2 b1 b2 g (hk i1 b1 h1).1 (hk i2 b2 h2).1 g1 g2, hokf.base, hokf.lt⟩
      obtain ⟨h4, h5⟩ := hk id blk hb
      obtain ⟨h6, h7⟩ := hokf.ok id blk h4
      refine ⟨hA id blk hb, ?_⟩
      unfold BlkOk at h7 ⊢
      split
      · rename_i hbox
        rw [if_pos hbox] at h7
        obtain ⟨g, us, T', e1, e2, e3, e4⟩ := h7
        have hlo : blk.cs.inL L = true := by simpa [Blk.inL, hbox] using h5
        exact ⟨g, us, T', e1, e2, e3.to rfl (fun L' ps he t ht => ht.cutP hcut (lp_inL (by rw [he] at hlo; exact hlo) t)), e4.1, fun i j hi hj => by obtain ⟨v, h6, h7, h8⟩ := e4.2 i j hi hj; exact ⟨v, h6, h7.cutP1 hcut (inL_get hlo i j), h8⟩⟩
      · rename_i hbox
        rw [if_neg hbox] at h7
        obtain ⟨us, e1, e2⟩ := h7
        exact ⟨us, e1, e2.1, fun i j hi hj => by obtain ⟨v, h6, h7, h8⟩ := e2.2 i j hi hj; exact ⟨v, h6, @Rep.bare cf c' (fun b h1 h2 => ⟨h1, h2, fun _ => rfl⟩) true rfl _ _ h7, h8⟩⟩
    have hpost : Post c c' B e := by
      refine ⟨hle, hheap, by rw [hH], fun id => Iff.rfl, hbel, fun b hb ho => (hK.only b ⟨Nat.lt_of_lt_of_le hb hok.base, fun id blk h hg => ?_⟩).2.2 ho, fun b hb => ?_⟩
      · have := ((hok.ok id blk h).2.lt hg).1
        omega
      · obtain ⟨k1, k2, k3⟩ := hK.only b hb
        exact ⟨⟨k1.1, fun id blk h => k1.2 id blk (hk id blk h).1⟩, k2, k3⟩
    have hrr : Rep c' false r (tupV us) := by
      rw [h2] at hin ⊢
      exact (tup_rep h3).cutR hcut hin
    rcases he with rfl | rfl
    · exact ⟨hdef, _, hres, _, c', rfl, rfl, hrr, hpost⟩
    · exact ⟨hdef, _, hres, _, c', rfl, rfl, hrr, hpost⟩
theorem hcl_mk {H : Nat → Option Blk} {n : Nat} {g : FuncId} {args : List PV} {K : PV → Eff → Prop} {Hr : List (Nat × Option Blk)} {r : PV} {e : Eff} (h : HCall P g args Hr n r e)
    (h1 : ∀ p ∈ Hr, p.1 ∈ args.flatMap PV.ids ∧ p.1 < n ∧ H p.1 = p.2 ∧ ∀ b, p.2 = some b → b.inL (fun i => (Hr.map (·.1)).contains i) = true)
    (h2 : args.all (PV.inL fun i => (Hr.map (·.1)).contains i) = true) (h3 : ∀ p ∈ e, p.1 ∈ Hr.map (·.1) ∨ (n ≤ p.1 ∧ p.1 < n + 8)) (h4 : K r e) : hcl P H n g args K :=
  ⟨Hr, r, e, h, h1, h2, h3, h4⟩
end Go.Pv
