/- It is proved that a call comes to what the evaluator tells of it, deferred calls too. No condition beyond the lemmas' own. -/
import Derived.Test.YtphjfhglapkmhaaDoorE4
namespace Go.Proofs.YtphjfhglapkmhaaDoor.E
open Go
section
variable {P : Program} {H : Hints} {mo : Nat → Nat → Prop} {acc : Own} {w0 : World} {own : Own} {st : St} {a : Act} {w : World}

theorem FR.noTake (h : FR P H mo acc w0 own st a w) : FR P (noTake H) mo acc w0 own st a w := { h with }

theorem resV_run (h : FR P H mo acc w0 own st a w) (f : FuncId) : ∀ (rs : List ResultVar) (vs : List (V × Tag)), resV P H f st rs = some vs →
    ∃ xs : List Value, (rs.mapM fun
      | .tmp t => pure (a.tmps.getD t undef)
      | .cell c t => do loadVar t (← asAddr (a.tmps.getD c undef)) : Sem (List Value)).run P w = .ok xs w ∧ xs.length = vs.length ∧
      ∀ (j : Nat) (v : V) (tag : Tag) (x : Value), vs[j]? = some (v, tag) → xs[j]? = some x → XRel (Mut mo own) own w v x ∧ TRel own st.l st.g v tag x
  | [], vs, hr => by
    simp [resV] at hr
    subst hr
    exact ⟨[], rfl, rfl, fun j v tag x hv => by simp at hv⟩
  | .tmp t :: r, vs, hr => by
    rw [resV] at hr
    obtain ⟨vs', hv', rfl⟩ := Option.map_eq_some_iff.1 hr
    obtain ⟨xs, h1, h2, h3⟩ := resV_run h f r vs' hv'
    refine ⟨a.tmps.getD t undef :: xs, ?_, by simp [h2], fun j v tag x hv hx => ?_⟩
    · rw [List.mapM_cons]
      refine (run_ok (w1 := w) (r := a.tmps.getD t undef) rfl).trans ?_
      exact (run_ok h1).trans rfl
    · cases j with
      | zero =>
        simp only [List.getElem?_cons_zero, Option.some.injEq] at hv hx
        subst hx
        have := h.tmp t
        rw [hv] at this
        exact this
      | succ j => exact h3 j v tag x (by simpa using hv) (by simpa using hx)
  | .cell c t :: r, vs, hr => by
    rw [resV] at hr
    obtain ⟨u, hu, hr⟩ := Option.bind_eq_some_iff.1 hr
    obtain ⟨vs', hv', rfl⟩ := Option.map_eq_some_iff.1 hr
    obtain ⟨xs, h1, h2, h3⟩ := resV_run h f r vs' hv'
    have hp := (h.tmp c).1
    obtain ⟨x, own', u1, u2, u3, u4, u5, u6⟩ := loadV_run h.noTake f 0 t _ _ hp u.1 u.2 hu
    obtain ⟨rfl, hst⟩ := u6 rfl
    rw [hst] at u4
    have hrun : (do loadVar t (← asAddr (a.tmps.getD c undef)) : Sem Value).run P w = .ok x w := by
      generalize hz : a.tmps.getD c undef = z at u1
      unfold Instr.loadAt at u1
      cases z with
      | pointer p =>
        cases p with
        | some ad => exact u1
        | none => simp [Instr.sureAddr, stuck, Sem.run] at u1
      | _ => simp [Instr.sureAddr, stuck, Sem.run] at u1
    refine ⟨x :: xs, ?_, by simp [h2], fun j v tag y hv hx => ?_⟩
    · rw [List.mapM_cons]
      refine (run_ok hrun).trans ?_
      exact (run_ok h1).trans rfl
    · cases j with
      | zero =>
        simp only [List.getElem?_cons_zero, Option.some.injEq] at hv hx
        subst hx
        rw [hv] at u3 u4
        exact ⟨u3, u4⟩
      | succ j => exact h3 j v tag y (by simpa using hv) (by simpa using hx)

theorem results_run (h : FR P H mo acc w0 own st a w) (f : FuncId) (fn : Func) (vs : List (V × Tag)) (hr : resV P H f st fn.results.toList = some vs) :
    ∃ xs : List Value, (results fn a.tmps).run P w = .ok (if h : xs.length = 1 then xs[0]'(by omega) else .tuple xs.toArray) w ∧ xs.length = vs.length ∧
      ∀ (j : Nat) (v : V) (tag : Tag) (x : Value), vs[j]? = some (v, tag) → xs[j]? = some x → XRel (Mut mo own) own w v x ∧ TRel own st.l st.g v tag x := by
  obtain ⟨xs, h1, h2, h3⟩ := resV_run h f _ vs hr
  refine ⟨xs, ?_, h2, h3⟩
  unfold results
  rw [Array.mapM_eq_mapM_toList]
  refine (run_ok (r := xs.toArray) (w1 := w) ?_).trans ?_
  · rw [map_eq_pure_bind]
    exact (run_ok h1).trans rfl
  · by_cases hx : xs.length = 1
    · simp only [List.size_toArray, hx, dite_true]
      rfl
    · simp only [List.size_toArray, hx, dite_false]
      rfl

theorem FR.start {s : List O} {args : List V} {args' : Array Value} (m : Nat) (fn : Func) (h1 : SR mo own s w) (h2 : ∀ k, k.shared = false → own k = none) (h3 : ∀ b x, mo b x → b < w.heap.size) (h4 : Args (Mut mo own) own.rho w args args') (h5 : Glob H (Mut mo own) own.rho w) :
    FR P H mo own w own (start m args fn.ntmps s) { tmps := args' ++ Array.replicate (fn.ntmps - args'.size) undef, defers := [] } w where
  sr := h1
  keep := Keep.refl _ _
  old := fun _ _ _ e => e
  oldB := fun k r e _ => ⟨k, r, e, rfl⟩
  mlt := h3
  rho0 := fun _ _ e => e
  size := by simp [E.start, h4.1]
  slot i v tag x hv hx := by
    simp only [E.start] at hv
    by_cases hi : i < args.length
    · rw [List.getElem?_append_left (by simpa using hi), List.getElem?_map] at hv
      rw [Array.getElem?_append_left (by rw [h4.1]; exact hi)] at hx
      obtain ⟨v', e, e2⟩ := Option.map_eq_some_iff.1 hv
      injection e2 with q1 q2
      subst q1; subst q2
      exact ⟨XRel.of (h4.2 i v' x e hx), trivial⟩
    · rw [List.getElem?_append_right (by simpa using hi), List.getElem?_replicate] at hv
      split at hv
      · injection hv with hv; injection hv with q1 q2; subst q1; subst q2; exact ⟨trivial, trivial⟩
      · cases hv
  arena := fun i box e => by
    simp only [E.start] at e
    rw [List.getElem?_replicate] at e
    split at e
    · injection e with e; subst e; exact fun q => absurd rfl q
    · cases e
  newTok := fun g _ => h2 _ rfl
  tokLt := fun g e => by simp [E.start] at e
  newLoc := fun i _ => h2 _ rfl
  dsize := rfl
  dfr := fun i d d' e => by simp [E.start] at e
  glob := h5

/-- What is left of what a frame owned. -/
def Own.left (o : Own) (g : Option Nat) : Own := fun k => if k = .tok 0 then (match g with | some g => o (.tok g) | none => none) else if k.shared then o k else none

theorem left_cases {o : Own} {g : Option Nat} {k : Key} {r : Reg} (h : o.left g k = some r) : (k = .tok 0 ∧ ∃ g', g = some g' ∧ o (.tok g') = some r) ∨ (k ≠ .tok 0 ∧ k.shared = true ∧ o k = some r) := by
  unfold Own.left at h
  split at h
  · rename_i e
    cases g with
    | none => simp at h
    | some g => exact .inl ⟨e, g, rfl, h⟩
  · rename_i e
    split at h
    · rename_i e2; exact .inr ⟨e, e2, h⟩
    · cases h

theorem FR.finish (h : FR P H mo acc w0 own st a w) (g : Option Nat) : CallPost mo acc w0 (own.left g) w st.s ∧ (∀ {v : V} {x : Value}, VRel (Mut mo own) own.rho w v x → VRel (Mut mo (own.left g)) (own.left g).rho w v x) := by
  have hsub : ∀ k r, own.left g k = some r → ∃ k', own k' = some r ∧ (k' = k ∨ (k = .tok 0 ∧ ∃ g', k' = .tok g' ∧ g = some g')) := by
    intro k r e
    rcases left_cases e with ⟨e1, g', e2, e3⟩ | ⟨e1, e2, e3⟩
    · exact ⟨_, e3, .inr ⟨e1, g', rfl, e2⟩⟩
    · exact ⟨k, e3, .inl rfl⟩
  have hs : ∀ k, k.shared = true → own.left g k = own k := by
    intro k q
    unfold Own.left
    rw [if_neg (by rintro rfl; cases q), if_pos q]
  have hrho : (own.left g).rho = own.rho := by funext i; simp only [Own.rho]; rw [hs _ rfl]
  have hmut : ∀ b x, Mut mo (own.left g) b x → Mut mo own b x := by
    rintro b x (hm | ⟨k, r, e, hr⟩)
    · exact .inl hm
    · obtain ⟨k', e', _⟩ := hsub k r e
      exact .inr ⟨k', r, e', hr⟩
  have hbase : Base mo (own.left g) w := by
    refine ⟨fun k r k' r' e e' he => ?_, fun k r e => ?_, fun k r b x e hx => ?_, fun k r e hr => ?_⟩
    · obtain ⟨k2, e2, z⟩ := hsub k r e
      obtain ⟨k2', e2', z'⟩ := hsub k' r' e'
      have := h.sr.base.inj _ _ _ _ e2 e2' he
      subst this
      rcases left_cases e with ⟨q1, g1, q2, q3⟩ | ⟨q1, q2, q3⟩ <;> rcases left_cases e' with ⟨q1', g1', q2', q3'⟩ | ⟨q1', q2', q3'⟩
      · rw [q1, q1']
      · have := h.sr.base.inj _ _ _ _ q3 q3' he; rw [← this] at q2'; cases q2'
      · have := h.sr.base.inj _ _ _ _ q3 q3' he; rw [this] at q2; cases q2
      · exact h.sr.base.inj _ _ _ _ q3 q3' he
    · obtain ⟨k2, e2, _⟩ := hsub k r e; exact h.sr.base.lt _ _ e2
    · obtain ⟨k2, e2, _⟩ := hsub k r e; exact h.sr.base.off _ _ _ _ e2 hx
    · obtain ⟨k2, e2, z⟩ := hsub k r e
      refine h.sr.base.room _ _ e2 ?_
      rcases z with rfl | ⟨_, g', rfl, _⟩
      · exact hr
      · rfl
  refine ⟨⟨⟨hbase, fun id o ho => (h.sr.objs id o ho).to (fun b x v _ hm q => hm (hmut b x q)) hs, fun id hi => by rw [hs _ rfl]; exact h.sr.newObj id hi, fun id off r e => by rw [hs _ rfl] at e; exact h.sr.spare id off r e⟩, fun k q q2 => by unfold Own.left; rw [if_neg q2, if_neg (by simp [q])],
    fun id b e => by rw [hrho]; exact h.rho0 id b e, h.keep, fun b x hb ⟨k, r, e, hr⟩ => by
      obtain ⟨k2, e2, _⟩ := hsub k r e
      exact h.old b x hb ⟨k2, r, e2, hr⟩, fun k r e hlt => by
      obtain ⟨k2, e2, _⟩ := hsub k r e
      exact h.oldB k2 r e2 hlt⟩, fun hv => hv.keep (fun b x v hc hm => ⟨hc, fun q => hm (hmut b x q)⟩) (fun id b e => by rw [hrho]; exact e)⟩

theorem plain_rel {M : Nat → Nat → Prop} {v : V} {x : Value} (h : XRel M own w v x) (hp : plainV v = true) : VRel M own.rho w v x := by
  cases v <;> first | exact h | (simp [plainV] at hp)

/-- A body that is left without deferred calls. -/
theorem leave_ret (f : FuncId) (fn : Func) (out : Out) {own' : Own} {st : St} {a' : Act} {w' : World} (hfr : FR P H mo own w own' st a' w') (hk : leave0 P H f fn .ret st = some out) :
    a'.defers = [] ∧ ∃ v, (results fn a'.tmps).run P w' = .ok v w' ∧ OutPost H f mo own w out (.returned v) w' := by
  unfold leave0 at hk
  simp only at hk
  obtain ⟨hd, hk⟩ := ck_some hk
  obtain ⟨vs, hvs, hk⟩ := Option.bind_eq_some_iff.1 hk
  obtain ⟨hc, hk⟩ := ck_some hk
  simp only [Option.some.injEq] at hk
  subst hk
  rw [Bool.and_eq_true] at hc
  have hd2 : a'.defers = [] := by
    have := hfr.dsize
    have h0 : st.d = [] := by simpa using hd
    rw [h0] at this
    exact List.eq_nil_of_length_eq_zero (by simpa using this)
  obtain ⟨xs, r1, r2, r3⟩ := results_run hfr f fn vs hvs
  refine ⟨hd2, _, r1, ?_⟩
  have hpl : ∀ (j : Nat) (v : V) (tag : Tag), vs[j]? = some (v, tag) → plainV v = true := fun j v tag e => List.all_eq_true.1 hc.1 (v, tag) (List.mem_of_getElem? e)
  -- the results as one value
  have hone : VRel (Mut mo own') own'.rho w' (one (vs.map (·.1))) (if h : xs.length = 1 then xs[0]'(by omega) else .tuple xs.toArray) := by
    by_cases hl : xs.length = 1
    · rw [dif_pos hl]
      obtain ⟨p, rfl⟩ : ∃ p, vs = [p] := by
        have : vs.length = 1 := by omega
        exact List.length_eq_one_iff.1 this
      obtain ⟨x, rfl⟩ := List.length_eq_one_iff.1 hl
      show VRel _ _ _ p.1 x
      exact plain_rel (r3 0 p.1 p.2 x rfl rfl).1 (hpl 0 p.1 p.2 rfl)
    · rw [dif_neg hl]
      have : one (vs.map (·.1)) = .tup (vs.map (·.1)) := by
        unfold one
        split
        · rename_i v e
          have := congrArg List.length e
          simp at this
          omega
        · rfl
      rw [this]
      refine .tup _ _ (by simp [r2]) fun j v x e1 e2 => ?_
      rw [List.getElem?_map] at e1
      obtain ⟨p, e3, rfl⟩ := Option.map_eq_some_iff.1 e1
      exact plain_rel (r3 j p.1 p.2 x e3 (by simpa using e2)).1 (hpl j p.1 p.2 e3)
  cases hh : hinted H f (vs.map (·.1)) with
  | false =>
    obtain ⟨p1, p2⟩ := hfr.finish none
    exact ⟨own'.left none, _, rfl, p1, p2 hone, fun _ => by unfold Own.left; rw [if_pos rfl], fun e => absurd (hh.symm.trans e) (by simp)⟩
  | true =>
    have hl : vs.length = 1 := by
      unfold hinted at hh
      simp at hh
      exact hh.2
    obtain ⟨p, rfl⟩ := List.length_eq_one_iff.1 hl
    obtain ⟨x, rfl⟩ := List.length_eq_one_iff.1 (r2.trans hl)
    obtain ⟨v, tag⟩ := p
    have hok : ownOk st.l (v, tag) = true := by
      have h6 := hc.2
      unfold hinted at hh
      simp only [List.length_map] at hh
      rw [hh] at h6
      simpa using h6
    have ht := (r3 0 v tag x rfl rfl).2
    -- which token
    let tg : Option Nat := match tag with | .tok g => if g ∈ st.l then some g else none | _ => none
    obtain ⟨p1, p2⟩ := hfr.finish tg
    refine ⟨own'.left tg, _, rfl, p1, p2 hone, fun e => absurd (hh.symm.trans e) (by simp), fun _ => ?_⟩
    intro k es b o n c e1 e2
    have e1' : v = .list true k es := e1
    have e2' : x = .slice (some ⟨b, o, none⟩) n c := e2
    subst e1'
    cases tag with
    | no => simp [ownOk] at hok
    | full => exact .inl (ht _ _ _ e2')
    | tok g =>
      have hgl : g ∈ st.l := by simpa [ownOk] using hok
      rcases ht.2 hgl k es b o n c rfl e2' with q | q
      · exact .inl q
      · right
        have : tg = some g := by simp only [tg]; rw [if_pos hgl]
        unfold Own.left
        rw [if_pos rfl, this]
        exact q

theorem leave_pan (f : FuncId) (fn : Func) (out : Out) {own' : Own} {st : St} {a' : Act} {w' : World} (hfr : FR P H mo own w own' st a' w') {v : V} {x : Value} (hv : VRel (Mut mo own') own'.rho w' v x) (hk : leave0 P H f fn (.pan v) st = some out) :
    a'.defers = [] ∧ OutPost H f mo own w out (.panicked [{ v := x, recovered := false }]) w' := by
  unfold leave0 at hk
  simp only at hk
  obtain ⟨hd, hk⟩ := ck_some hk
  simp only [Option.some.injEq] at hk
  subst hk
  rw [Bool.and_eq_true] at hd
  have hd2 : a'.defers = [] := by
    have := hfr.dsize
    have h0 : st.d = [] := by simpa using hd.1
    rw [h0] at this
    exact List.eq_nil_of_length_eq_zero (by simpa using this)
  obtain ⟨p1, p2⟩ := hfr.finish none
  exact ⟨hd2, own'.left none, x, rfl, p1, p2 hv, by unfold Own.left; rw [if_pos rfl]⟩

/-- What a deferred call's evaluation says of it. -/
def RecOkD (P : Program) (H : Hints) (rec : Rec) : Prop :=
  ∀ (f : FuncId) (args : List V) (s : List O) (out : Out), rec f args s = some out → ∀ (mo : Nat → Nat → Prop) (own : Own) (w : World) (args' : Array Value) (u : FrameMode),
    SR mo own s w → (∀ k, k.shared = false → own k = none) → (∀ b x, mo b x → b < w.heap.size) → Args (Mut mo own) own.rho w args args' → Glob H (Mut mo own) own.rho w →
    CallsD P f args' u w fun e u' w' => u' = u ∧ OutPost H f mo own w out e w'

theorem CallsD.mono {f : FuncId} {args : Array Value} {u : FrameMode} {R R' : Ending → FrameMode → World → Prop} (h : CallsD P f args u w R) (hr : ∀ e u' w', R e u' w' → R' e u' w') : CallsD P f args u w R' := fun c cs hc => by
  obtain ⟨e, u', w', fr, h1, h2⟩ := h c cs hc
  exact ⟨e, u', w', fr, hr _ _ _ h1, h2⟩

theorem leave0_goto (f : FuncId) (fn : Func) (id : Nat) (st : St) : leave0 P H f fn (.exit id) st = none := rfl

theorem dcall_ok (hH : HOk P H) {rec : Rec} (hrec : RecOk P H rec) (n : Nat) : RecOkD P H (dcall P H rec n) := fun f args s out h mo own w args' u h1 h2 h3 h4 h5 => by
  unfold dcall at h
  cases hf : P.funcs[f]? with
  | none => rw [hf] at h; cases h
  | some fn =>
    rw [hf] at h
    simp only at h
    cases hb : fn.body with
    | none => rw [hb] at h; cases h
    | some c =>
      rw [hb] at h
      simp only at h
      have hst : FR P H mo own w own (start (H.sites f) args fn.ntmps s) _ w := FR.start (P := P) (H.sites f) fn h1 h2 h3 h4 h5
      refine callsD_of_wp hf hb (wp_mono (wpIn_wide.1 (code_run hH hrec n none f out c _ own _ _ w hst h)) fun e a' w' hq => ?_)
      cases e with
      | normal => obtain ⟨st, own', hfr, hk⟩ := hq; exact leave_ret f fn out hfr hk
      | ret => obtain ⟨st, own', hfr, hk⟩ := hq; exact leave_ret f fn out hfr hk
      | panic ch => obtain ⟨st, own', v, x, rfl, hfr, hv, hk⟩ := hq; exact leave_pan f fn out hfr hv hk
      | exit id => obtain ⟨st, own', hfr, hk⟩ := hq; rw [leave0_goto] at hk; cases hk
      | goto l => exact hq.elim
      | outgrown => exact hq.elim

/-- The deferred calls, one after the other. -/
theorem drain_run (hH : HOk P H) {D : Rec} (hD : RecOkD P H D) (fn : Func) (R : Ending → World → Prop) (u : FrameMode) (hu : u ≠ .run) (hu2 : settle u = u) (K : St → Option Out) (out : Out) (ts : Array Value) (v0 : V) (x0 : Value)
    (hK : ∀ (own' : Own) (st' : St) (a' : Act) (w' : World), FR P H mo acc w0 own' st' a' w' → a'.tmps = ts → VRel (Mut mo own') own'.rho w' v0 x0 → K st' = some out → Leaves P fn ts R [] u w') :
    ∀ (ds : List (FuncId × List V)) (own : Own) (st : St) (a : Act) (w : World), st.d = ds → a.tmps = ts → FR P H mo acc w0 own st a w → VRel (Mut mo own) own.rho w v0 x0 → drain H D ds st K = some out → Leaves P fn ts R a.defers u w
  | [], own, st, a, w, hd, ht, h, hv, hs => by
    have ha : a.defers = [] := List.eq_nil_of_length_eq_zero (by rw [h.dsize, hd]; rfl)
    rw [ha]
    rw [drain] at hs
    refine hK own _ a w ?_ ht hv hs
    have : ({ st with d := [] } : St) = st := by cases st; simp only at hd; subst hd; rfl
    rw [this]; exact h
  | d :: ds, own, st, a, w, hd, ht, h, hv, hs => by
    rw [drain] at hs
    obtain ⟨hok, hs⟩ := ck_some hs
    rw [Bool.and_eq_true] at hok
    obtain ⟨o, ho, hs⟩ := Option.bind_eq_some_iff.1 hs
    cases ha : a.defers with
    | nil => have := h.dsize; rw [ha, hd] at this; simp at this
    | cons d' ds' =>
      obtain ⟨cap, e1, e2, e3⟩ := h.dfr 0 d d' (by rw [hd]; rfl) (by rw [ha]; rfl)
      obtain ⟨c1, c2, c3, c4⟩ := h.callee
      have hargs : Args (Mut (moIn mo own) own.sh) own.sh.rho w d.2 (d'.args ++ cap) := ⟨e2, fun j v x q1 q2 => (e3 j v x q1 q2).keep (fun b x v hc hm => ⟨hc, by rw [mut_in]; exact hm⟩) (fun id b e => e)⟩
      have h' : FR P H mo acc w0 own { st with d := ds } { a with defers := ds' } w := { h with
        dsize := by have := h.dsize; rw [ha, hd] at this; simpa using this
        dfr := fun i x x' q1 q2 => h.dfr (i + 1) x x' (by rw [hd]; exact q1) (by rw [ha]; exact q2) }
      refine ⟨hu, _, cap, d.1, d'.args ++ cap, e1, ?_, CallsD.mono (hD d.1 d.2 st.s o ho (moIn mo own) own.sh w _ u c1 c2 c3 hargs c4) fun e u' w' hp => ?_⟩
      · rw [e1]; exact hH.ok d.1 hok.1 _ w
      · obtain ⟨rfl, hp⟩ := hp
        cases o with
        | pan v s' => simp at hs
        | ret vs s' =>
          obtain ⟨own', v', rfl, p, hvv, q0, q1⟩ := hp
          have hh : hinted H d.1 vs = false := by
            unfold hinted
            have := hok.2
            simp only [Bool.not_eq_true'] at this
            rw [this]; rfl
          obtain ⟨f1, f2⟩ := h'.after p false (fun _ => q0 hh)
          simp only at hs ⊢
          rw [hu2]
          have hv2 : VRel (Mut (moIn mo own) own') own'.rho w' v0 x0 := hv.keep (fun b x v hc hm => by
            refine ⟨p.keep.cell b x v hc fun hx => hm ?_, fun hx => hm ?_⟩
            · rw [← mut_in]; exact .inr hx
            · rcases hx with hx | hx
              · rw [← mut_in]; exact .inl hx
              · rw [← mut_in]; exact .inr (p.old b x (cell_lt hc) hx)) (fun id b e => p.rho id b e)
          exact drain_run hH hD fn R u' hu hu2 K out ts v0 x0 hK ds _ _ { a with defers := ds' } w' rfl ht f1 (f2 hv2) hs

theorem call_ok (hH : HOk P H) (G : FuncId → Option (List V → List O → Option Out)) (hG : ∀ f g, G f = some g → RecOkAt P H f g) : ∀ n, RecOk P H (call P H G n)
  | 0 => fun f args s out h => by simp [call] at h
  | n + 1 => fun f args s out h mo own w args' h1 h2 h3 h4 h5 => by
    rw [call] at h
    cases hg : G f with
    | some g => rw [hg] at h; exact hG f g hg args s out h mo own w args' h1 h2 h3 h4 h5
    | none =>
      rw [hg] at h
      simp only at h
      cases hf : P.funcs[f]? with
      | none => rw [hf] at h; cases h
      | some fn =>
        rw [hf] at h
        simp only at h
        cases hb : fn.body with
        | none => rw [hb] at h; cases h
        | some c =>
          rw [hb] at h
          simp only at h
          have hst : FR P H mo own w own (start (H.sites f) args fn.ntmps s) _ w := FR.start (P := P) (H.sites f) fn h1 h2 h3 h4 h5
          have hrec := call_ok hH G hG n
          refine calls_of_wp_defers hf hb (wp_mono (wpIn_wide.1 (code_run hH hrec n none f out c _ own _ _ w hst h)) fun e a' w' hq => ?_)
          have ret : ∀ (st : St) (own' : Own), FR P H mo own w own' st a' w' → drain H (dcall P H (call P H G n) n) st.d st (leave0 P H f fn .ret) = some out → Leaves P fn a'.tmps (OutPost H f mo own w out) a'.defers .returning w' := fun st own' hfr hk =>
            drain_run hH (dcall_ok hH hrec n) fn _ .returning (by simp) rfl _ out a'.tmps (.bool true) (.bool true) (fun own2 st2 a2 w2 f2 e2 _ k2 => by
              obtain ⟨_, v, r1, r2⟩ := leave_ret f fn out f2 k2
              rw [e2] at r1
              exact ⟨v, r1, r2⟩) st.d own' st a' w' rfl rfl hfr (.bool _) hk
          cases e with
          | normal => obtain ⟨st, own', hfr, hk⟩ := hq; exact ret st own' hfr hk
          | ret => obtain ⟨st, own', hfr, hk⟩ := hq; exact ret st own' hfr hk
          | panic ch =>
            obtain ⟨st, own', v, x, rfl, hfr, hv, hk⟩ := hq
            exact drain_run hH (dcall_ok hH hrec n) fn _ (.panicking [{ v := x, recovered := false }]) (by simp) rfl _ out a'.tmps v x (fun own2 st2 a2 w2 f2 e2 v2 k2 => by
              exact (leave_pan f fn out f2 v2 k2).2) st.d own' st a' w' rfl rfl hfr hv hk
          | exit id => obtain ⟨st, own', hfr, hk⟩ := hq; simp [leave] at hk
          | goto l => exact hq.elim
          | outgrown => exact hq.elim
end
end Go.Proofs.YtphjfhglapkmhaaDoor.E
