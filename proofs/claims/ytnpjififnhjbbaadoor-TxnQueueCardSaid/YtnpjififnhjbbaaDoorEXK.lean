/- It is proved that an evaluation with more fuel tells no less. No condition beyond the lemmas' own. -/
import Derived.Test.YtnpjififnhjbbaaDoorEXJ
namespace Go.Proofs.YtnpjififnhjbbaaDoor.E
open Go
def OLe {α:Type}(x y:Option α):Prop:=∀o,x=some o->y=some o
theorem OLe.rfl' {α:Type}(x:Option α):OLe x x:=fun _ h=>h
theorem OLe.none {α:Type}(y:Option α):OLe .none y:=fun _ h=>by cases h
theorem OLe.ck {α:Type}{x y:Option α}(b:Bool)(h:OLe x y):OLe (ck b x) (ck b y):=by
 cases b with
 | true=>exact h
 | false=>exact fun o h=>h
theorem OLe.bind {α β:Type}{x x':Option α}{f g:α->Option β}(hx:OLe x x')(h:∀a,OLe (f a) (g a)):OLe (x.bind f) (x'.bind g):=fun o e=>by
 obtain ⟨a,h1,h2⟩:=Option.bind_eq_some_iff.1 e
 rw [hx _ h1]
 exact h a o h2
theorem OLe.cond {α:Type}{x y x' y':Option α}(b:Bool)(h1:OLe x x')(h2:OLe y y'):OLe (bif b then x else y) (bif b then x' else y'):=by
 cases b with
 | true=>exact h1
 | false=>exact h2
def Up (rec rec':Rec):Prop:=∀f args s,OLe (rec f args s) (rec' f args s)
def SLe (K K':St->Option Out):Prop:=∀st,OLe (K st) (K' st)
def CLe (K K':Cont):Prop:=∀e st,OLe (K e st) (K' e st)
section
variable {P:Program} {H:ae2}
theorem goOn_up {f:FuncId}{dst:Option Nat}{v:V×Tag}{K K':St->Option Out}(hK:SLe K K')(st:St):OLe (goOn H f dst v K st) (goOn H f dst v K' st):=
 OLe.bind (OLe.rfl' _) fun _=>hK _
theorem both_up {x x' y y':Option Out}(h1:OLe x x')(h2:OLe y y'):OLe (both x y) (both x' y'):=by
 intro o e
 cases x with
 | none=>cases e
 | some a=>cases y with
  | none=>cases e
  | some b=>rw [h1 _ rfl,h2 _ rfl];exact e
theorem allOf_up {α:Type}(l:List α){f g:α->Option Out}(h:∀a,OLe (f a) (g a)):OLe (as4 (l.map f)) (as4 (l.map g)):=by
 induction l with
 | nil=>exact OLe.rfl' _
 | cons a l ih=>
  cases l with
  | nil=>exact h a
  | cons b l=>
   simp only [List.map_cons,as4] at ih ⊢
   exact both_up (h a) ih
theorem iter_up {b b':Cont->St->Option Out}(hb:∀K K',CLe K K'->SLe (b K) (b' K')){K K':Cont}(hK:CLe K K'):∀{n m:Nat},n<=m->SLe (iter b n K) (iter b' m K')
 | 0,m,_,st=>OLe.none _
 | n+1,0,h,st=>absurd h (by omega)
 | n+1,m+1,h,st=>by
  simp only [iter]
  refine hb _ _ ?_ st
  intro e st'
  cases e with
  | normal=>exact iter_up hb hK (by omega) st'
  | exit i=>exact hK _ _
  | ret=>exact hK _ _
  | pan v=>exact hK _ _
theorem exitK_up {F F':Nat->Option Out}(h:∀e,OLe (F e) (F' e))(e:Nat):∀es:List Nat,OLe (bc0 es e F) (bc0 es e F')
 | []=>OLe.none _
 | a::r=>OLe.cond _ (h a) (exitK_up h e r)
theorem jumpK_up {K K':Cont}(hK:CLe K K')(es:List Nat)(st:St)(pend:Option (Option Nat)):OLe (jumpK es K st pend) (jumpK es K' st pend):=by
 cases pend with
 | none=>exact hK _ _
 | some j=>cases j with
  | none=>exact hK _ _
  | some e=>exact exitK_up (fun e=>hK _ _) e es
theorem rangeV_up {rec rec':Rec}(hr:Up rec rec'){inr:Bool}{f:FuncId}{g:Operand}{ps es:List Nat}{K K':Cont}(hK:CLe K K'):SLe (ax9 P H rec inr f g ps es K) (ax9 P H rec' inr f g ps es K'):=by
 intro st
 unfold ax9
 refine OLe.ck _ ?_
 split
 ·refine OLe.ck _ (OLe.bind (hr _ _ _) fun out=>?_)
  unfold aR1
  cases out with
  | pan v s=>exact hK _ _
  | ret vs s=>
   simp only
   unfold lpK
   split
   ·exact OLe.ck _ (jumpK_up hK _ _ _)
   ·exact OLe.none _
 ·exact OLe.none _
theorem aP6 {D D':Option V->Rec}(hD:∀m,Up (D m) (D' m)){K:Option V->St->Option Out}:∀(ds:List (FuncId×List V)) (m:Option V) (st:St),OLe (drain P H D ds m st K) (drain P H D' ds m st K)
 | [],m,st=>OLe.rfl' _
 | d::ds,m,st=>by
  simp only [drain]
  refine OLe.cond _ (aP6 hD ds _ _) (OLe.ck _ (OLe.bind (hD _ _ _ _) fun out=>?_))
  cases out with
  | ret vs s=>exact aP6 hD ds _ _
  | pan v s=>exact OLe.none _
variable {G:FuncId->Option (List V->List O->Option Out)}
end
end Go.Proofs.YtnpjififnhjbbaaDoor.E
