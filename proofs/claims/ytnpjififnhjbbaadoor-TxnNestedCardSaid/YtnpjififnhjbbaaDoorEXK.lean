/- It is proved that an evaluation with more fuel tells no less. No condition beyond the lemmas' own. -/
import Derived.Test.YtnpjififnhjbbaaDoorEXJ
namespace Go.Proofs.YtnpjififnhjbbaaDoor.E
open Go

def OLe {α : Type} (x y : Option α) : Prop := ∀ o, x = some o → y = some o
theorem OLe.rfl' {α : Type} (x : Option α) : OLe x x := fun _ h => h
theorem OLe.none {α : Type} (y : Option α) : OLe .none y := fun _ h => by cases h
theorem OLe.ck {α : Type} {x y : Option α} (b : Bool) (h : OLe x y) : OLe (ck b x) (ck b y) := by
  cases b with
  | true => exact h
  | false => exact fun o h => h
theorem OLe.bind {α β : Type} {x x' : Option α} {f g : α → Option β} (hx : OLe x x') (h : ∀ a, OLe (f a) (g a)) : OLe (x.bind f) (x'.bind g) := fun o e => by
  obtain ⟨a, h1, h2⟩ := Option.bind_eq_some_iff.1 e
  rw [hx _ h1]
  exact h a o h2
theorem OLe.cond {α : Type} {x y x' y' : Option α} (b : Bool) (h1 : OLe x x') (h2 : OLe y y') : OLe (bif b then x else y) (bif b then x' else y') := by
  cases b with
  | true => exact h1
  | false => exact h2
def Up (rec rec' : Rec) : Prop := ∀ f args s, OLe (rec f args s) (rec' f args s)
def SLe (K K' : St → Option Out) : Prop := ∀ st, OLe (K st) (K' st)
def CLe (K K' : Cont) : Prop := ∀ e st, OLe (K e st) (K' e st)

section
variable {P : Program} {H : Hints}
theorem goOn_up {f : FuncId} {dst : Option Nat} {v : V × Tag} {K K' : St → Option Out} (hK : SLe K K') (st : St) : OLe (goOn H f dst v K st) (goOn H f dst v K' st) :=
  OLe.bind (OLe.rfl' _) fun _ => hK _
theorem callV_up {rec rec' : Rec} (hr : Up rec rec') {f g : FuncId} {args : List V} {dst : Option Nat} {st : St} {K K' : St → Option Out} {KP KP' : Cont} (hK : SLe K K') (hP : CLe KP KP') :
    OLe (callV H rec f g args dst st K KP) (callV H rec' f g args dst st K' KP') := by
  unfold callV
  refine OLe.ck _ (OLe.cond _ (OLe.ck _ (OLe.bind (hr _ _ _) ?_)) (OLe.bind (hr _ _ _) ?_))
  · intro out
    cases out with
    | ret vs s => exact OLe.ck _ (OLe.cond _ (goOn_up hK _) (goOn_up hK _))
    | pan v s => exact OLe.ck _ (hP _ _)
  · intro out
    cases out with
    | ret vs s => exact OLe.cond _ (goOn_up hK _) (goOn_up hK _)
    | pan v s => exact hP _ _
theorem step_up {rec rec' : Rec} (hr : Up rec rec') {inr : Bool} {f : FuncId} {o : Oper} {K K' : St → Option Out} {KP KP' : Cont} (hK : SLe K K') (hP : CLe KP KP') (st : St) :
    OLe (step P H rec inr f o K KP st) (step P H rec' inr f o K' KP' st) := by
  unfold step
  cases o.op with
  | call c =>
    simp only
    cases c.callee with
    | builtin b => exact OLe.bind (OLe.rfl' _) fun _ => goOn_up hK _
    | value x =>
      simp only
      cases yldOf H st c with
      | some id => exact OLe.ck _ (OLe.bind (hr _ _ _) fun out => by cases out with | ret vs s => exact goOn_up hK _ | pan v s => exact OLe.none _)
      | none =>
      refine OLe.bind (OLe.rfl' _) fun g => ?_
      cases H.ext g.1 with
      | some e => exact OLe.ck _ (OLe.bind (OLe.rfl' _) fun _ => goOn_up hK _)
      | none => exact OLe.ck _ (callV_up hr hK hP)
    | invoke r m =>
      simp only
      cases yldOf H st c with
      | some id => exact OLe.ck _ (OLe.bind (hr _ _ _) fun out => by cases out with | ret vs s => exact goOn_up hK _ | pan v s => exact OLe.none _)
      | none =>
      refine OLe.bind (OLe.rfl' _) fun g => ?_
      cases H.ext g.1 with
      | some e => exact OLe.ck _ (OLe.bind (OLe.rfl' _) fun _ => goOn_up hK _)
      | none => exact OLe.ck _ (callV_up hr hK hP)
  | defer c => exact OLe.ck _ (OLe.bind (OLe.rfl' _) fun _ => OLe.ck _ (hK _))
  | panic x =>
    simp only
    cases (ev H st x).1 with
    | iface t v => exact hP _ _
    | _ => exact OLe.none _
  | _ => exact OLe.ck _ (OLe.bind (OLe.rfl' _) fun _ => goOn_up hK _)
theorem ops_up {rec rec' : Rec} (hr : Up rec rec') {inr : Bool} {f : FuncId} {all : Array Oper} {K K' : St → Option Out} {KP KP' : Cont} (hK : SLe K K') (hP : CLe KP KP') : ∀ l, SLe (ops P H rec inr f all K KP l) (ops P H rec' inr f all K' KP' l)
  | [], st => by simp only [ops]; exact hK st
  | o :: r, st => by
    have ih : SLe (ops P H rec inr f all K KP r) (ops P H rec' inr f all K' KP' r) := ops_up hr hK hP r
    simp only [ops]
    split
    · exact step_up hr ih hP st
    · split
      · exact OLe.cond _ (step_up hr ih hP st) (ih _)
      · exact ih _
      · exact OLe.none _
theorem stepD_up {rec rec' : Rec} (hr : Up rec rec') {f : FuncId} {o : Oper} (st : St) : OLe (stepD P H rec f o st) (stepD P H rec' f o st) := by
  have hc : ∀ (g : FuncId) (args : List V) (dst : Option Nat), OLe (callD H rec f g args dst st) (callD H rec' f g args dst st) := by
    intro g args dst
    unfold callD
    refine OLe.ck _ (OLe.cond _ (OLe.ck _ (OLe.bind (hr _ _ _) ?_)) (OLe.bind (hr _ _ _) ?_)) <;> (intro out; exact OLe.rfl' _)
  unfold stepD
  cases o.op with
  | call c =>
    simp only
    cases c.callee with
    | builtin b => exact OLe.rfl' _
    | value x =>
      simp only
      cases yldOf H st c with
      | some id => exact OLe.ck _ (OLe.bind (hr _ _ _) fun out => OLe.rfl' _)
      | none =>
      refine OLe.bind (OLe.rfl' _) fun g => ?_
      cases H.ext g.1 with
      | some e => exact OLe.rfl' _
      | none => exact OLe.ck _ (hc _ _ _)
    | invoke r m =>
      simp only
      cases yldOf H st c with
      | some id => exact OLe.ck _ (OLe.bind (hr _ _ _) fun out => OLe.rfl' _)
      | none =>
      refine OLe.bind (OLe.rfl' _) fun g => ?_
      cases H.ext g.1 with
      | some e => exact OLe.rfl' _
      | none => exact OLe.ck _ (hc _ _ _)
  | _ => exact OLe.rfl' _
theorem opD_up {rec rec' : Rec} (hr : Up rec rec') {f : FuncId} {all : Array Oper} (i : Nat) (st : St) : OLe (opD P H rec f all i st) (opD P H rec' f all i st) := by
  unfold opD
  refine OLe.bind (OLe.rfl' _) fun o => ?_
  split
  · exact stepD_up hr st
  · split
    · exact OLe.cond _ (stepD_up hr st) (OLe.rfl' _)
    · exact OLe.rfl' _
    · exact OLe.none _
theorem both_up {x x' y y' : Option Out} (h1 : OLe x x') (h2 : OLe y y') : OLe (both x y) (both x' y') := by
  intro o e
  cases x with
  | none => cases e
  | some a => cases y with
    | none => cases e
    | some b => rw [h1 _ rfl, h2 _ rfl]; exact e
theorem allOf_up {α : Type} (l : List α) {f g : α → Option Out} (h : ∀ a, OLe (f a) (g a)) : OLe (allOf (l.map f)) (allOf (l.map g)) := by
  induction l with
  | nil => exact OLe.rfl' _
  | cons a l ih =>
    cases l with
    | nil => exact h a
    | cons b l =>
      simp only [List.map_cons, allOf] at ih ⊢
      exact both_up (h a) ih
theorem drawn_up {rec rec' : Rec} (hr : Up rec rec') {f : FuncId} {os : Array Oper} {K K' : St → Option Out} (hK : SLe K K') : ∀ (n : Nat) (S : Array Bool), SLe (drawn P H rec f os K n S) (drawn P H rec' f os K' n S)
  | 0, S, st => by simp only [drawn]; exact OLe.ck _ (hK st)
  | n + 1, S, st => by
    simp only [drawn]
    split
    · exact hK st
    · split
      · exact OLe.bind (opD_up hr _ _) (drawn_up hr hK n _)
      · exact allOf_up _ fun i => OLe.bind (opD_up hr _ _) (drawn_up hr hK n _)
theorem iter_up {b b' : Cont → St → Option Out} (hb : ∀ K K', CLe K K' → SLe (b K) (b' K')) {K K' : Cont} (hK : CLe K K') : ∀ {n m : Nat}, n ≤ m → SLe (iter b n K) (iter b' m K')
  | 0, m, _, st => OLe.none _
  | n + 1, 0, h, st => absurd h (by omega)
  | n + 1, m + 1, h, st => by
    simp only [iter]
    refine hb _ _ ?_ st
    intro e st'
    cases e with
    | normal => exact iter_up hb hK (by omega) st'
    | exit i => exact hK _ _
    | ret => exact hK _ _
    | pan v => exact hK _ _
theorem exitK_up {F F' : Nat → Option Out} (h : ∀ e, OLe (F e) (F' e)) (e : Nat) : ∀ es : List Nat, OLe (exitK es e F) (exitK es e F')
  | [] => OLe.none _
  | a :: r => OLe.cond _ (h a) (exitK_up h e r)
theorem jumpK_up {K K' : Cont} (hK : CLe K K') (es : List Nat) (st : St) (pend : Option (Option Nat)) : OLe (jumpK es K st pend) (jumpK es K' st pend) := by
  cases pend with
  | none => exact hK _ _
  | some j => cases j with
    | none => exact hK _ _
    | some e => exact exitK_up (fun e => hK _ _) e es
theorem rangeV_up {rec rec' : Rec} (hr : Up rec rec') {inr : Bool} {f : FuncId} {g : Operand} {ps es : List Nat} {K K' : Cont} (hK : CLe K K') : SLe (rangeV P H rec inr f g ps es K) (rangeV P H rec' inr f g ps es K') := by
  intro st
  unfold rangeV
  refine OLe.ck _ ?_
  split
  · refine OLe.ck _ (OLe.bind (hr _ _ _) fun out => ?_)
    unfold rangeE
    cases out with
    | pan v s => exact hK _ _
    | ret vs s =>
      simp only
      unfold lpK
      split
      · exact OLe.ck _ (jumpK_up hK _ _ _)
      · exact OLe.none _
  · exact OLe.none _
theorem code_up {rec rec' : Rec} (hr : Up rec rec') {n m : Nat} (hn : n ≤ m) {inr : Bool} {f : FuncId} : ∀ (c : Code) (K K' : Cont), CLe K K' → SLe (code P H rec n inr f c K) (code P H rec' m inr f c K') := by
  intro c
  induction c with
  | skip => intro K K' hK st; simp only [code]; exact hK _ _
  | region id os d =>
    intro K K' hK st
    simp only [code]
    have hb : SLe (fun st' => (behind (H.br f id) st').bind (K .normal)) (fun st' => (behind (H.br f id) st').bind (K' .normal)) := fun st' => OLe.bind (OLe.rfl' _) (hK _)
    exact OLe.cond _ (drawn_up hr hb _ _ _) (ops_up hr hb hK _ _)
  | seq x y ihx ihy =>
    intro K K' hK st
    simp only [code]
    refine ihx _ _ ?_ st
    intro e st
    cases e with
    | normal => exact ihy _ _ hK st
    | exit i => exact hK _ _
    | ret => exact hK _ _
    | pan v => exact hK _ _
  | cond t x y ihx ihy =>
    intro K K' hK st
    simp only [code]
    split
    · exact OLe.cond _ (OLe.bind (OLe.rfl' _) (ihx _ _ hK)) (OLe.bind (OLe.rfl' _) (ihy _ _ hK))
    · exact OLe.none _
  | block id c ih =>
    intro K K' hK st
    simp only [code]
    refine ih _ _ ?_ st
    intro e st
    cases e with
    | exit i => exact OLe.cond _ (hK _ _) (hK _ _)
    | normal => exact hK _ _
    | ret => exact hK _ _
    | pan v => exact hK _ _
  | loop c ih => intro K K' hK st; simp only [code]; exact iter_up ih hK hn st
  | exit id => intro K K' hK st; simp only [code]; exact hK _ _
  | ret => intro K K' hK st; simp only [code]; exact hK _ _
  | rangeFunc g ps ca cb _ _ => intro K K' hK st; simp only [code]; exact rangeV_up hr hK st
  | _ => intro K K' hK st; simp only [code]; exact OLe.none _
theorem dcall_up {rec rec' : Rec} (hr : Up rec rec') {n m : Nat} (hn : n ≤ m) : Up (dcall P H rec n) (dcall P H rec' m) := by
  intro f args s
  unfold dcall
  split
  · split
    · exact code_up hr hn _ _ _ (fun _ _ => OLe.rfl' _) _
    · exact OLe.none _
  · exact OLe.none _
theorem dcallM_up {rec rec' : Rec} (hr : Up rec rec') {n m : Nat} (hn : n ≤ m) (q : Option V) : Up (dcallM P H rec n q) (dcallM P H rec' m q) := by
  intro f args s
  unfold dcallM
  split
  · exact OLe.bind (OLe.rfl' _) fun st => OLe.bind (OLe.rfl' _) fun st => OLe.bind (OLe.rfl' _) fun st => code_up hr hn _ _ _ (fun _ _ => OLe.rfl' _) _
  · exact dcall_up hr hn _ _ _
theorem drain_up {D D' : Option V → Rec} (hD : ∀ m, Up (D m) (D' m)) {K : Option V → St → Option Out} : ∀ (ds : List (FuncId × List V)) (m : Option V) (st : St), OLe (drain P H D ds m st K) (drain P H D' ds m st K)
  | [], m, st => OLe.rfl' _
  | d :: ds, m, st => by
    simp only [drain]
    refine OLe.cond _ (drain_up hD ds _ _) (OLe.ck _ (OLe.bind (hD _ _ _ _) fun out => ?_))
    cases out with
    | ret vs s => exact drain_up hD ds _ _
    | pan v s => exact OLe.none _
theorem leave_up {D D' : Option V → Rec} (hD : ∀ m, Up (D m) (D' m)) (f : FuncId) (fn : Func) : CLe (leave P H D f fn) (leave P H D' f fn) := by
  intro e st
  cases e with
  | normal => exact drain_up hD _ _ _
  | ret => exact drain_up hD _ _ _
  | pan v => exact drain_up hD _ _ _
  | exit i => exact OLe.none _
theorem callY_up {rec rec' : Rec} (hr : Up rec rec') {n m : Nat} (hn : n ≤ m) (id : Nat) (args : List V) (s : List O) : OLe (callY P H rec n id args s) (callY P H rec' m id args s) := by
  unfold callY
  split
  · refine OLe.bind (OLe.rfl' _) fun cc => OLe.ck _ (code_up hr hn _ _ _ (fun e st => ?_) _)
    cases e with
    | normal =>
      unfold beginY begK
      simp only
      split
      · exact OLe.ck _ (code_up hr hn _ _ _ (fun _ _ => OLe.rfl' _) _)
      · exact OLe.none _
    | _ => exact OLe.none _
  · exact OLe.none _
variable {G : FuncId → Option (List V → List O → Option Out)}
theorem call_up : ∀ {n m : Nat}, n ≤ m → Up (call P H G n) (call P H G m)
  | 0, m, _, f, args, s => OLe.none _
  | n + 1, 0, h, f, args, s => absurd h (by omega)
  | n + 1, m + 1, h, f, args, s => by
    have hr : Up (call P H G n) (call P H G m) := call_up (by omega)
    simp only [call]
    split
    · exact OLe.rfl' _
    · split
      · split
        · exact code_up hr (by omega) _ _ _ (leave_up (dcallM_up hr (by omega)) _ _) _
        · exact OLe.none _
      · exact callY_up hr (by omega) _ _ _
/-- What a run with fuel comes to. -/
theorem run_fuel {n : Nat} {f : FuncId} {args : List V} {s : List O} {o : Out} (h : call P H G n f args s = some o) : run P H G f args s = some o :=
  Lim_of n fun m hm => call_up hm f args s o h
end
end Go.Proofs.YtnpjififnhjbbaaDoor.E
