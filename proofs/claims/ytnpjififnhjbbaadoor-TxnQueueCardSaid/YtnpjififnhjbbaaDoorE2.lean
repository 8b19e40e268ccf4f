/- It is proved of the evaluator's operations one by one, new variables, stores, slices and appends, that the machine's do the same. No condition beyond the lemmas' own. -/
import Derived.Test.YtnpjififnhjbbaaDoorE1
import Derived.Great.BuildSlice
namespace Go.Proofs.YtnpjififnhjbbaaDoor.E
open Go
def Own.set (o:Own)(k:Key)(r:Option Reg):Own:=fun k'=>if k'=k then r else o k'
theorem Own.ab7 (o:Own)(k:Key)(r:Option Reg):o.set k r k=r:=by simp [Own.set]
theorem Own.ab6 (o:Own){k k':Key}(r:Option Reg)(h:k'≠k):o.set k r k'=o k':=by simp [Own.set,h]
theorem at1 {own:Own}{k:Key}{r:Option Reg}{id:Nat}(h1:Key.obj id≠k)(h2:Key.ghost id≠k)(h:own (.obj id)=none/\own (.ghost id)=none):own.set k r (.obj id)=none/\own.set k r (.ghost id)=none:=by
 rw [Own.ab6 _ _ h1,Own.ab6 _ _ h2];exact h
theorem bu1 {own:Own}{k:Key}{r:Option Reg}{id:Nat}(h1:Key.obj id≠k)(h2:Key.ghost id≠k):(own.set k r).rho id=own.rho id:=Own.ap7 (Own.ab6 _ _ h1) (Own.ab6 _ _ h2)
theorem Base.erase {mo own w}(h:Base mo own w)(k:Key):Base mo (own.set k none) w:=by
 have aux:∀k' r,own.set k none k'=some r->own k'=some r:=by
  intro k' r e
  by_cases hk:k'=k
  ·subst hk;rw [Own.ab7] at e;cases e
  ·rwa [Own.ab6 _ _ hk] at e
 exact ⟨fun k1 r1 k2 r2 l1 l2 e1 e2 e=>h.inj k1 r1 k2 r2 l1 l2 (aux _ _ e1) (aux _ _ e2) e,fun id r e=>h.gone id r (aux _ _ e),fun k' r e=>h.lt k' r (aux _ _ e),fun k' r b x e=>h.off k' r b x (aux _ _ e),fun k' r e=>h.room k' r (aux _ _ e)⟩
theorem Base.add {mo own w}(h:Base mo own w)(k:Key)(r:Reg)(h1:∀k' r',k'≠k->k'.live=true->own k'=some r'->r'.1≠r.1)(h2:r.1<w.heap.size)(h3:∀b x,Reg.has r b x->¬mo b x)(h4:k.room=true->bp7 w r)(hl:k.live=true:=by rfl):Base mo (own.set k (some r)) w:=by
 have aux:∀k' r',own.set k (some r) k'=some r'->(k'=k/\r'=r)∨(k'≠k/\own k'=some r'):=by
  intro k' r' e
  by_cases hk:k'=k
  ·subst hk;rw [Own.ab7] at e;injection e with e;exact .inl ⟨rfl,e.symm⟩
  ·rw [Own.ab6 _ _ hk] at e;exact .inr ⟨hk,e⟩
 refine ⟨fun k1 r1 k2 r2 l1 l2 e1 e2 e=>?_,fun id r2 e=>?_,fun k' r' e=>?_,fun k' r' b x e hx=>?_,fun k' r' e hr=>?_⟩
 ·rcases aux _ _ e1 with ⟨rfl,rfl⟩ | ⟨n1,o1⟩<;>rcases aux _ _ e2 with ⟨rfl,rfl⟩ | ⟨n2,o2⟩
  ·rfl
  ·exact absurd e.symm (h1 _ _ n2 l2 o2)
  ·exact absurd e (h1 _ _ n1 l1 o1)
  ·exact h.inj _ _ _ _ l1 l2 o1 o2 e
 ·rcases aux _ _ e with ⟨rfl,rfl⟩ | ⟨n1,o1⟩
  ·cases hl
  ·exact h.gone _ _ o1
 ·rcases aux _ _ e with ⟨rfl,rfl⟩ | ⟨n1,o1⟩
  ·exact h2
  ·exact h.lt _ _ o1
 ·rcases aux _ _ e with ⟨rfl,rfl⟩ | ⟨n1,o1⟩
  ·exact h3 b x hx
  ·exact h.off _ _ b x o1 hx
 ·rcases aux _ _ e with ⟨rfl,rfl⟩ | ⟨n1,o1⟩
  ·exact h4 hr
  ·exact h.room _ _ o1 hr
section
variable {P:Program} {H:ae2} {mo:Nat->Nat->Prop} {acc:Own} {w0:World} {own:Own} {st:St} {a:Act} {w:World}
theorem cell_of_heap {w:World}{b:Nat}{cs:Array Value}{T:TypeId}{fr:Nat×Nat}(h:w.heap[b]? =some (.cells cs T fr))(x:Nat):w.cell? ⟨b,x,none⟩=cs[x]? :=by
 simp [World.cell?,h]
theorem aU3 {α:Type}{n:Nat}{l c:List α}(h:taken n l=some c):n<=l.length/\c=l.take n:=by
 unfold taken at h
 split at h
 ·rename_i hn;simp at h;exact ⟨hn,h.symm⟩
 ·simp at h
theorem aE9 {M:Nat->Nat->Prop}{ρ:Nat->Option (Nat×Nat)}(t:TypeId)(c:List V)(v:V)(hv:au8 P t c=some v)(hn:c.length=P.cellsOf t)(b o:Nat)(f:Nat->Value)
  (h1:∀(j:Nat) (x:V),c[j]? =some x->w.cell? ⟨b,o+j,none⟩=some (f j)) (h2:∀(j:Nat) (x:V),c[j]? =some x->VRel M ρ w x (f j)):
  ∃u,(loadVar t ⟨b,o,none⟩).run P w=.ok u w/\VRel M ρ w v u/\(af4 P t=false->u=f 0):=by
 obtain ⟨⟨d,hd⟩,hv⟩:=br5 hv
 unfold loadVar
 rcases hv with ⟨e1,e2,rfl⟩ | ⟨e1,rfl,e3⟩
 ·have hl:=run_loadCells (P:=P) w ⟨b,o,none⟩ c.length f (fun j hj=>by
   rw [an1];exact h1 j _ (List.getElem?_eq_getElem hj))
  refine ⟨.agg ((List.range c.length).map f).toArray,?_,.agg _ _ (by simp) e2 ?_,by simp [e1]⟩
  ·refine (ab3 (ax8 t d hd w)).trans ?_
   rw [e1]
   simp only [if_true]
   refine (ab3 (ba3 hd w)).trans ?_
   rw [←hn]
   exact (ab3 hl).trans rfl
  ·intro j x y hx hy
   have hj:j<c.length:=(List.getElem?_eq_some_iff.1 hx).1
   simp [List.getElem?_map,List.getElem?_range hj] at hy
   subst hy
   exact h2 j x hx
 ·refine ⟨f 0,?_,h2 0 v rfl,fun _=>rfl⟩
  refine (ab3 (ax8 t d hd w)).trans ?_
  rw [e1]
  have:=h1 0 v rfl
  simp only [Nat.add_zero] at this
  simp [load,Sem.run,this]
theorem br6 (h:FR P H mo acc w0 own st a w){i:Nat}{box:List (V×Tag)}(hb:st.a[i]? =some box)(hne:box≠[]):
  ∃b cs T,own (.loc i)=some (b,0,box.length)/\w.heap[b]? =some (.cells cs T (0,0))/\cs.size=box.length /\
   ∀(j:Nat) (v:V) (tag:Tag),box[j]? =some (v,tag)->w.cell? ⟨b,j,none⟩=some (cs.getD j undef)/\v.good=true/\VRel (Mut mo own) own.rho w v (cs.getD j undef)/\TRel own st.l st.g v tag (cs.getD j undef):=by
 obtain ⟨b,cs,T,h1,h2,h3,h4⟩:=h.arena i box hb hne
 refine ⟨b,cs,T,h1,h2,h3,fun j v tag hj=>?_⟩
 have hlt:j<cs.size:=by rw [h3];exact (List.getElem?_eq_some_iff.1 hj).1
 have e:cs[j]? =some (cs.getD j undef):=by simp [Array.getD_eq_getD_getElem?,hlt]
 obtain ⟨g1,g2,g3⟩:=h4 j v tag _ hj e
 exact ⟨by rw [cell_of_heap h2,e],g1,g2,g3⟩
theorem ar2 {s:List O}(h:SR P mo own s w){id:Nat}{box:List (V×Bool)}(hb:s[id]? =some (.box box)):
  ∃b cs T,own (.obj id)=some (b,0,cs.size)/\w.heap[b]? =some (.cells cs T (0,0))/\box.length<=cs.size /\
   ∀(j:Nat) (v:V) (fl:Bool),box[j]? =some (v,fl)->w.cell? ⟨b,j,none⟩=some (cs.getD j undef)/\v.good=true/\VRel (Mut mo own) own.rho w v (cs.getD j undef)/\(fl=true->aA6 own id j v (cs.getD j undef)):=by
 obtain ⟨b,cs,T,h1,h2,h3,h4⟩:=h.objs id _ hb
 refine ⟨b,cs,T,h1,h2,h3,fun j v fl hj=>?_⟩
 have hlt:j<cs.size:=Nat.lt_of_lt_of_le (List.getElem?_eq_some_iff.1 hj).1 h3
 have e:cs[j]? =some (cs.getD j undef):=by simp [Array.getD_eq_getD_getElem?,hlt]
 obtain ⟨g1,g2,g3⟩:=h4 j v fl _ hj e
 exact ⟨by rw [cell_of_heap h2,e],g1,g2,g3⟩
theorem Post.id {mo own w}(h:Base mo own w)(T:Key->Prop):Post mo own w own w T:=
 ⟨Keep.refl _ _,fun b x hx=>.inl hx,fun k r l e=>.inl ⟨k,r,l,e,rfl⟩,fun _ _ h=>h,fun k r hk _=>⟨hk,fun _=>rfl⟩,fun k _ hk=>hk,h⟩
theorem FR.take (h:FR P H mo acc w0 own st a w){id off:Nat}{box:List (V×Bool)}{v:V}(hb:st.s[id]? =some (.box box))(hc:box[off]? =some (v,true)){x:Value}
  (hx:w.cell? ⟨((own.rho id).getD (0,0)).1,off,none⟩=some x):
  ∃own',FR P H mo acc w0 own' {st with g:=st.g+1,l:=st.g::st.l,s:=st.s.set id (.box (box.set off (v,false)))} a w/\XRel (Mut mo own') own' w v x/\TRel own' (st.g::st.l) (st.g+1) v (.tok st.g) x:=by
 obtain ⟨b,cs,T,h1,h2,h3,h4⟩:=ar2 h.sr hb
 have hrho:own.rho id=some (b,cs.size):=Own.aj0 h1
 rw [hrho] at hx
 obtain ⟨g1,g2,g3,g4⟩:=h4 off v true hc
 rw [show ((some (b,cs.size)).getD (0,0)).1=b from rfl,g1] at hx
 injection hx with hx
 subst hx
 let own1:=own.set (.spare id off) none
 let own':=own1.set (.tok st.g) (own (.spare id off))
 have ht0:own (.tok st.g)=none:=h.newTok _ fun hm=>absurd (h.tokLt _ hm) (by omega)
 have b1:Base mo own1 w:=h.sr.base.erase _
 have b2:Base mo own' w:=by
  show Base mo (own1.set (.tok st.g) (own (.spare id off))) w
  cases e:own (.spare id off) with
  | none=>exact b1.erase _
  | some r=>
   refine b1.add _ r (fun k' r' hk' l' e' he=>?_) (h.sr.base.lt _ _ e) (fun b x hx=>h.sr.base.off _ _ _ _ e hx) (fun _=>h.sr.base.room _ _ e rfl)
   by_cases hs:k'=.spare id off
   ·subst hs;simp [own1,Own.ab7] at e'
   ·simp [own1,Own.ab6 _ _ hs] at e'
    exact hs (h.sr.base.inj _ _ _ _ l' rfl e' e he)
 let TT:Key->Prop:=fun k=>k=.tok st.g∨k=.spare id off∨k=.obj id
 have hne:∀k,¬TT k->own' k=own k:=by
  intro k hk
  show (own.set (.spare id off) none).set (.tok st.g) (own (.spare id off)) k=_
  rw [Own.ab6 _ _ (fun e=>hk (.inl e)),Own.ab6 _ _ (fun e=>hk (.inr (.inl e)))]
 have hobj:∀i,own' (.obj i)=own (.obj i):=by
  intro i
  show (own.set (.spare id off) none).set (.tok st.g) (own (.spare id off)) _=_
  rw [Own.ab6 _ _ (by simp),Own.ab6 _ _ (by simp)]
 have hgh:∀i,own' (.ghost i)=own (.ghost i):=by
  intro i
  show (own.set (.spare id off) none).set (.tok st.g) (own (.spare id off)) _=_
  rw [Own.ab6 _ _ (by simp),Own.ab6 _ _ (by simp)]
 have hrh:own'.rho=own.rho:=by funext i;exact Own.ap7 (hobj i) (hgh i)
 have hloc:∀i,own' (.loc i)=own (.loc i):=by
  intro i
  show (own.set (.spare id off) none).set (.tok st.g) (own (.spare id off)) _=_
  rw [Own.ab6 _ _ (by simp),Own.ab6 _ _ (by simp)]
 have hsub:∀b x,own'.has b x->own.has b x:=by
  rintro b x ⟨k,r,e,hr⟩
  by_cases k1:k=.tok st.g
  ·subst k1
   simp [own',Own.ab7] at e
   exact ⟨_,r,e,hr⟩
  ·simp [own',Own.ab6 _ _ k1] at e
   by_cases k2:k=.spare id off
   ·subst k2;simp [own1,Own.ab7] at e
   ·simp [own1,Own.ab6 _ _ k2] at e
    exact ⟨k,r,e,hr⟩
 have hsubB:∀k r,k.live=true->own' k=some r->(∃k0 r0,k0.live=true/\own k0=some r0/\r0.1=r.1)∨w.heap.size<=r.1:=by
  intro k r l e
  by_cases k1:k=.tok st.g
  ·subst k1
   simp [own',Own.ab7] at e
   exact .inl ⟨_,r,rfl,e,rfl⟩
  ·simp [own',Own.ab6 _ _ k1] at e
   by_cases k2:k=.spare id off
   ·subst k2;simp [own1,Own.ab7] at e
   ·simp [own1,Own.ab6 _ _ k2] at e
    exact .inl ⟨k,r,l,e,rfl⟩
 have p:Post mo own w own' w TT:=
  ⟨Keep.refl _ _,fun b x hx=>.inl (hsub b x hx),hsubB,fun i b hb=>by rw [hrh];exact hb,fun k r hk hT=>⟨by rw [hne k hT];exact hk,fun _=>rfl⟩,fun k hT hk=>by rw [hne k hT];exact hk,b2⟩
 have hstay:=p.stay
 refine ⟨own',h.post p rfl rfl (by simp) ?_ ?_ ?_ (fun i r e=>by rw [hloc];exact e) ?_ ?_ ?_ ?_ ?_,XRel.of (hstay.v g3),⟨by omega,fun _ k es b' o n c hv hx=>?_⟩⟩
 ·intro g hg hm
  rcases List.mem_cons.1 hm with e | e
  ·omega
  ·exact ⟨e,by simp [TT];omega⟩
 ·intro g hm
  rcases List.mem_cons.1 hm with e | e
  ·simp;omega
  ·have:=h.tokLt g e;simp;omega
 ·intro g hm
  simp at hm
  rw [hne _ (by simp [TT];exact hm.1)]
  exact h.newTok g hm.2
 ·intro i bx hbx
  exact .inl ⟨hbx,by simp [TT]⟩
 ·intro i hi
  rw [hloc];exact h.newLoc i hi
 ·intro i o ho
  rw [List.getElem?_set] at ho
  by_cases e:id=i
  ·subst e
   rw [if_pos rfl] at ho
   split at ho<;>simp at ho
   subst ho
   right
   refine ⟨b,cs,T,by rw [hobj];simpa using h1,h2,by simpa using h3,fun j v' fl x' hj hx'=>?_⟩
   rw [List.getElem?_set] at hj
   have hxe:cs.getD j undef=x':=by simp [Array.getD_eq_getD_getElem?,hx']
   by_cases ej:off=j
   ·subst ej
    rw [if_pos rfl] at hj
    split at hj<;>simp at hj
    obtain ⟨rfl,rfl⟩:=hj
    obtain ⟨a1,a2,a3,a4⟩:=h4 off v true hc
    rw [hxe] at a3
    exact ⟨a2,hstay.v a3,by simp⟩
   ·rw [if_neg ej] at hj
    obtain ⟨a1,a2,a3,a4⟩:=h4 j v' fl hj
    rw [hxe] at a3 a4
    refine ⟨a2,hstay.v a3,fun hf=>?_⟩
    have:=a4 hf
    unfold aA6 at this ⊢
    rw [show own' (.spare id j)=own (.spare id j) from by
     show (own.set (.spare id off) none).set (.tok st.g) (own (.spare id off)) _=_
     rw [Own.ab6 _ _ (by simp),Own.ab6 _ _ (by simp;omega)]]
    exact this
  ·rw [if_neg e] at ho
   refine .inl ⟨ho,by simp [TT];omega,fun o2=>by simp [TT];intro e2;omega⟩
 ·intro i hi
  rw [hobj]
  exact h.sr.newObj i (by simpa using hi)
 ·intro i o2 r e
  have e2:own (.spare i o2)=some r/\¬(i=id/\o2=off):=by
   have e3:own1 (.spare i o2)=some r:=by
    rw [show own' (.spare i o2)=own1 (.spare i o2) from Own.ab6 _ _ (by simp)] at e
    exact e
   by_cases q:(Key.spare i o2)=.spare id off
   ·rw [q] at e3;simp [own1,Own.ab7] at e3
   ·rw [show own1 (.spare i o2)=own (.spare i o2) from Own.ab6 _ _ q] at e3
    exact ⟨e3,fun ⟨q1,q2⟩=>q (by rw [q1,q2])⟩
  obtain ⟨cs2,v2,c1,c2⟩:=h.sr.spare i o2 r e2.1
  by_cases ei:id=i
  ·subst ei
   rw [hb] at c1
   injection c1 with c1;injection c1 with c1
   subst c1
   refine ⟨box.set off (v,false),v2,?_,?_⟩
   ·rw [List.getElem?_set,if_pos rfl,if_pos (List.getElem?_eq_some_iff.1 hb).1]
   ·rw [List.getElem?_set,if_neg (fun e=>e2.2 ⟨rfl,e.symm⟩)];exact c2
  ·exact ⟨cs2,v2,by rw [List.getElem?_set,if_neg ei];exact c1,c2⟩
 ·have:=g4 rfl k es b' o n c hv hx
  rw [show own' (.tok st.g)=own (.spare id off) from Own.ab7 _ _ _]
  exact this
theorem load_one {t:TypeId}(ht:(P.underlying t).isSome=true)(ha:af4 P t=false){v:V}(hg:v.good=true){M:Nat->Nat->Prop}{ρ:Nat->Option (Nat×Nat)}{b off:Nat}{x:Value}(h1:w.cell? ⟨b,off,none⟩=some x)(h2:VRel M ρ w v x)(hn:P.cellsOf t=1):
  (Instr.loadAt t (.pointer (some ⟨b,off,none⟩))).run P w=.ok x w:=by
 have hv:au8 P t [v]=some v:=by simp [au8,ck,ht,ha,hg]
 obtain ⟨u,u1,u2,u3⟩:=aE9 (P:=P) (w:=w) (M:=M) (ρ:=ρ) t [v] v hv (by simp [hn]) b off (fun _=>x) (fun j y hj=>by
  cases j with
  | zero=>simpa using h1
  | succ j=>simp at hj) (fun j y hj=>by
  cases j with
  | zero=>simp at hj;subst hj;exact h2
  | succ j=>simp at hj)
 rw [u3 ha] at u1
 unfold Instr.loadAt
 simp [Instr.sureAddr,u1]
theorem bx1 (h:FR P H mo acc w0 own st a w)(f:FuncId)(dst:Nat)(t:TypeId)(p:V)(p':Value)(hp:XRel (Mut mo own) own w p p')(r:V×Tag)(st':St)(hr:ak8 P H f dst t p st=some (r,st')):
  ∃x own',(Instr.loadAt t p').run P w=.ok x w/\FR P H mo acc w0 own' st' a w/\XRel (Mut mo own') own' w r.1 x/\TRel own' st'.l st'.g r.1 r.2 x/\st'.t=st.t/\(H.take f dst=false->own'=own/\st'=st):=by
 unfold ak8 at hr
 simp only at hr
 have hr0:=aa2 hr
 clear hr
 obtain ⟨hun,hr⟩:=hr0
 split at hr
 ·rename_i cs
  obtain ⟨c,hc,hq⟩:=Option.bind_eq_some_iff.1 hr
  obtain ⟨v,hv,hq⟩:=Option.map_eq_some_iff.1 hq
  injection hq with e1 e2
  subst e1;subst e2
  obtain ⟨hn,rfl⟩:=aU3 hc
  cases hp with
  | ref _ b o g hg h1 h2=>
  obtain ⟨u,u1,u2,_⟩:=aE9 (P:=P) (w:=w) t _ v hv (by simp;omega) b o g (fun j x hx=>by
   rw [List.getElem?_take] at hx
   split at hx
   ·exact (h1 j x hx).1
   ·simp at hx) (fun j x hx=>by
   rw [List.getElem?_take] at hx
   split at hx
   ·exact h2 j x hx
   ·simp at hx)
  exact ⟨u,own,by unfold Instr.loadAt;simp [Instr.sureAddr,u1],h,XRel.of u2,trivial,rfl,fun _=>⟨rfl,rfl⟩⟩
 ·rename_i i off
  obtain ⟨box,hbox,hq⟩:=Option.bind_eq_some_iff.1 hr
  obtain ⟨hne,hq⟩:=aa2 hq
  have hne:box≠[]:=by rintro rfl;simp at hne
  obtain ⟨c,hc,hq⟩:=Option.bind_eq_some_iff.1 hq
  obtain ⟨hn,rfl⟩:=aU3 hc
  obtain ⟨b,cs,T,g1,g2,g3,g4⟩:=br6 h hbox hne
  obtain ⟨b',n',g5,rfl⟩:=hp
  rw [g1] at g5
  injection g5 with g5
  injection g5 with g5 _
  subst g5
  have cell:∀(j:Nat) (v:V) (tag:Tag),((box.drop off).take (P.cellsOf t))[j]? =some (v,tag)->box[off+j]? =some (v,tag):=by
   intro j v tag hj
   rw [List.getElem?_take] at hj
   split at hj
   ·rwa [List.getElem?_drop] at hj
   ·simp at hj
  split at hq
  ·rename_i x hagg hone
   simp only [Option.some.injEq] at hq
   injection hq with e1 e2
   subst e1;subst e2
   have hx:box[off]? =some x:=by
    have:=cell 0 x.1 x.2 (by rw [hone];rfl)
    simpa using this
   obtain ⟨k1,k2,k3,k4⟩:=g4 off x.1 x.2 hx
   have hlen:P.cellsOf t=1:=by
    have:=congrArg List.length hone
    simp at this hn
    omega
   exact ⟨cs.getD off undef,own,load_one hun hagg k2 k1 k3 hlen,h,XRel.of k3,k4,rfl,fun _=>⟨rfl,rfl⟩⟩
  ·obtain ⟨v,hv,hq⟩:=Option.map_eq_some_iff.1 hq
   injection hq with e1 e2
   subst e1;subst e2
   obtain ⟨u,u1,u2,_⟩:=aE9 (P:=P) (w:=w) t _ v hv (by simp at hn ⊢;omega) b off (fun j=>cs.getD (off+j) undef) (fun j x hx=>by
    obtain ⟨y,hy,rfl⟩:∃y,((box.drop off).take (P.cellsOf t))[j]? =some y/\y.1=x:=by
     rw [List.getElem?_map] at hx
     exact Option.map_eq_some_iff.1 hx
    exact (g4 (off+j) y.1 y.2 (cell j y.1 y.2 hy)).1) (fun j x hx=>by
    obtain ⟨y,hy,rfl⟩:∃y,((box.drop off).take (P.cellsOf t))[j]? =some y/\y.1=x:=by
     rw [List.getElem?_map] at hx
     exact Option.map_eq_some_iff.1 hx
    exact (g4 (off+j) y.1 y.2 (cell j y.1 y.2 hy)).2.2.1)
   exact ⟨u,own,by unfold Instr.loadAt;simp [Instr.sureAddr,u1],h,XRel.of u2,trivial,rfl,fun _=>⟨rfl,rfl⟩⟩
 ·rename_i id off
  split at hr
  ·rename_i box hbox
   obtain ⟨c,hc,hq⟩:=Option.bind_eq_some_iff.1 hr
   obtain ⟨hn,rfl⟩:=aU3 hc
   obtain ⟨b,cs,T,g1,g2,g3,g4⟩:=ar2 h.sr hbox
   have hrho:own.rho id=some (b,cs.size):=Own.aj0 g1
   cases hp with
   | obj _ _ b' hb'=>
   rw [hrho] at hb'
   injection hb' with hb'
   injection hb' with hb' _
   subst hb'
   have cell:∀(j:Nat) (v:V) (fl:Bool),((box.drop off).take (P.cellsOf t))[j]? =some (v,fl)->box[off+j]? =some (v,fl):=by
    intro j v fl hj
    rw [List.getElem?_take] at hj
    split at hj
    ·rwa [List.getElem?_drop] at hj
    ·simp at hj
   split at hq
   ·rename_i x hagg hone
    have hx:box[off]? =some x:=by
     have:=cell 0 x.1 x.2 (by rw [hone];rfl)
     simpa using this
    obtain ⟨k1,k2,k3,k4⟩:=g4 off x.1 x.2 hx
    have hrun:(Instr.loadAt t (.pointer (some ⟨b,off,none⟩))).run P w=.ok (cs.getD off undef) w:=load_one hun hagg k2 k1 k3 (by
     have:=congrArg List.length hone
     simp at this hn
     omega)
    split at hq
    ·rename_i hfl
     simp only [Option.some.injEq] at hq
     injection hq with e1 e2
     subst e1;subst e2
     have hfl2:x.2=true:=by simp at hfl;exact hfl.1
     obtain ⟨own',q1,q2,q3⟩:=h.take hbox (v:=x.1) (by rw [hx,←hfl2]) (x:=cs.getD off undef) (by rw [hrho];exact k1)
     exact ⟨_,own',hrun,q1,q2,q3,rfl,fun e=>by simp [e] at hfl⟩
    ·simp only [Option.some.injEq] at hq
     injection hq with e1 e2
     subst e1;subst e2
     exact ⟨_,own,hrun,h,XRel.of k3,trivial,rfl,fun _=>⟨rfl,rfl⟩⟩
   ·obtain ⟨v,hv,hq⟩:=Option.map_eq_some_iff.1 hq
    injection hq with e1 e2
    subst e1;subst e2
    obtain ⟨u,u1,u2,_⟩:=aE9 (P:=P) (w:=w) t _ v hv (by simp at hn ⊢;omega) b off (fun j=>cs.getD (off+j) undef) (fun j x hx=>by
     obtain ⟨y,hy,rfl⟩:∃y,((box.drop off).take (P.cellsOf t))[j]? =some y/\y.1=x:=by
      rw [List.getElem?_map] at hx
      exact Option.map_eq_some_iff.1 hx
     exact (g4 (off+j) y.1 y.2 (cell j y.1 y.2 hy)).1) (fun j x hx=>by
     obtain ⟨y,hy,rfl⟩:∃y,((box.drop off).take (P.cellsOf t))[j]? =some y/\y.1=x:=by
      rw [List.getElem?_map] at hx
      exact Option.map_eq_some_iff.1 hx
     exact (g4 (off+j) y.1 y.2 (cell j y.1 y.2 hy)).2.2.1)
    exact ⟨u,own,by unfold Instr.loadAt;simp [Instr.sureAddr,u1],h,XRel.of u2,trivial,rfl,fun _=>⟨rfl,rfl⟩⟩
  ·simp at hr
 ·simp at hr
end
end Go.Proofs.YtnpjififnhjbbaaDoor.E
namespace Go.Proofs.YtnpjififnhjbbaaDoor.E
open Go
section
variable {P:Program} {H:ae2} {mo:Nat->Nat->Prop} {acc:Own} {w0:World} {own:Own} {st:St} {a:Act} {w:World}
theorem VRel.one {M:Nat->Nat->Prop}{ρ:Nat->Option (Nat×Nat)}{v:V}{x:Value}(h:VRel M ρ w v x)(hg:v.good=true):x.cells= #[x]/\x.oneCell'=true:=by
 cases h<;>first | exact ⟨rfl,rfl⟩ | (simp [V.good] at hg)
theorem XRel.good {M:Nat->Nat->Prop}{v:V}{x:Value}(h:XRel M own w v x)(hg:v.good=true):VRel M own.rho w v x:=by
 cases v<;>first | exact h | (simp [V.good] at hg)
theorem aq0 {v:V}(hg:v.good=true):v.cells=[v]:=by
 cases v<;>first | rfl | (simp [V.good] at hg)
theorem am5 {M:Nat->Nat->Prop}{v:V}{x:Value}(h:XRel M own w v x)(hg:ac5 v.cells=true):
  x.cells.size=v.cells.length/\∀(j:Nat) (p:V) (q:Value),v.cells[j]? =some p->x.cells[j]? =some q->p.good=true/\VRel M own.rho w p q:=by
 by_cases hv:v.good=true
 ·have hx:VRel M own.rho w v x:=h.to (by rintro rfl;simp [V.good] at hv) (by rintro i o rfl;simp [V.good] at hv)
  rw [aq0 hv,(hx.one hv).1]
  refine ⟨rfl,fun j p q hp hq=>?_⟩
  cases j with
  | zero=>simp at hp hq;subst hp;subst hq;exact ⟨hv,hx⟩
  | succ j=>simp at hp
 ·cases v with
  | agg cs=>
   cases h with
   | agg _ cs' hs hgg h=>exact ⟨hs,fun j p q hp hq=>⟨ap9 _ _ _ hgg hp,h j p q hp hq⟩⟩
  | undef=>simp [V.cells,ac5,V.good] at hg
  | loc i o=>simp [V.cells,ac5,V.good] at hg
  | tup vs=>simp [V.cells,ac5,V.good] at hg
  | _=>exact absurd rfl hv
theorem ap2 (o:Obj){b:Nat}(h:b<w.heap.size):(w.alloc o).heap[b]? =w.heap[b]? :=RowKit.Below.heap_alloc w o b h
theorem heap_alloc_new (o:Obj):(w.alloc o).heap[w.heap.size]? =some o:=by
 show (w.heap.push o)[w.heap.size]? =some o
 simp
theorem size_alloc (o:Obj):(w.alloc o).heap.size=w.heap.size+1:=by
 show (w.heap.push o).size=_
 simp
theorem cell_alloc_lt (o:Obj){b x:Nat}(h:b<w.heap.size):(w.alloc o).cell? ⟨b,x,none⟩=w.cell? ⟨b,x,none⟩:=by
 simp only [World.cell?,ap2 o h]
theorem regOk_alloc (o:Obj){r:Reg}(hr:r.1<w.heap.size)(h:bp7 w r):bp7 (w.alloc o) r:=by
 obtain ⟨h1,cs,T,h2,h3⟩:=h
 exact ⟨h1,cs,T,(ap2 o hr).trans h2,h3⟩
theorem Base.alloc (h:Base mo own w)(o:Obj):Base mo own (w.alloc o):=
 ⟨h.inj,h.gone,fun k r e=>by rw [size_alloc];have:=h.lt k r e;omega,h.off,fun k r e hr=>regOk_alloc o (h.lt k r e) (h.room k r e hr)⟩
theorem Keep.alloc (own:Own)(w:World)(o:Obj):Keep own.has w (w.alloc o):=
 ⟨rfl,rfl,rfl,by rw [size_alloc];omega,fun b hb _=>ap2 o hb,fun b x v hc _=>by rw [cell_alloc_lt o (aM0 hc)];exact hc⟩
theorem Post.alloc (h:Base mo own w)(o:Obj)(T:Key->Prop):Post mo own w own (w.alloc o) T:=
 ⟨Keep.alloc own w o,fun b x hx=>.inl hx,fun k r l e=>.inl ⟨k,r,l,e,rfl⟩,fun _ _ h=>h,fun k r hk _=>⟨hk,fun _=>ap2 o (h.lt k r hk)⟩,fun k _ hk=>hk,h.alloc o⟩
theorem Post.aE1 (h:Base mo own w)(hmo:∀b x,mo b x->b<w.heap.size)(o:Obj)(k:Key)(hk:own k=none)(lo hi:Nat)(hr:k.room=true->bp7 (w.alloc o) (w.heap.size,lo,hi))(hobj:∀id,k=.obj id->own.rho id=none)(hkl:k.live=true:=by rfl):
  Post mo own w (own.set k (some (w.heap.size,lo,hi))) (w.alloc o) (·=k) where
 keep:=Keep.alloc own w o
 sub b x hx:=by
  obtain ⟨k',r,e,hr⟩:=hx
  by_cases hk':k'=k
  ·subst hk';rw [Own.ab7] at e;injection e with e;subst e;right;exact Nat.le_of_eq hr.1
  ·rw [Own.ab6 _ _ hk'] at e;exact .inl ⟨k',r,e,hr⟩
 subB k' r l e:=by
  by_cases hk':k'=k
  ·subst hk';rw [Own.ab7] at e;injection e with e;subst e;exact .inr (Nat.le_refl _)
  ·rw [Own.ab6 _ _ hk'] at e;exact .inl ⟨k',r,l,e,rfl⟩
 rho id b hb:=by
  by_cases e:k=.obj id
  ·rw [hobj id e] at hb;cases hb
  ·rw [bu1 (fun q=>e q.symm) (fun q=>by rw [←q] at hkl;cases hkl)];exact hb
 same k' r hk' hT:=⟨by rw [Own.ab6 _ _ hT];exact hk',fun _=>ap2 o (h.lt k' r hk')⟩
 new k' hT hk':=by rw [Own.ab6 _ _ hT];exact hk'
 base:=(h.alloc o).add k _ (fun k' r' _ _ e=>by have:=h.lt k' r' e;exact Nat.ne_of_lt this) (by rw [size_alloc];exact Nat.lt_succ_self _) (fun b x hx hm=>by
  have:=hmo b x hm
  have:=hx.1
  simp at this
  omega) hr hkl
theorem FR.new_free (h:FR P H mo acc w0 own st a w)(b x:Nat)(hb:w.heap.size<=b):¬Mut mo own b x:=by
 rintro (hm | ⟨k,r,e,hr⟩)
 ·have:=h.mlt b x hm;have:=h.keep.size;omega
 ·have:=h.sr.base.lt k r e;have:=hr.1;omega
theorem FR.alloc (h:FR P H mo acc w0 own st a w)(o:Obj):FR P H mo acc w0 own st a (w.alloc o):=
 h.post (Post.alloc h.sr.base o (fun _=>False)) rfl rfl (Nat.le_refl _) (fun g _ hm=>⟨hm,id⟩) h.tokLt h.newTok (fun _ _ e=>e) (fun i box hb=>.inl ⟨hb,id⟩) h.newLoc (fun id o ho=>.inl ⟨ho,fun e=>e,fun _ e=>e⟩) h.sr.newObj h.sr.spare
theorem aU6 (h:FR P H mo acc w0 own st a w)(o:Obj):Stay mo own own w (w.alloc o):=(Post.alloc h.sr.base o (fun _=>False)).stay
theorem new_cells (h:FR P H mo acc w0 own st a w)(cs:List V)(cs':Array Value)(T:TypeId)(hs:cs'.size=cs.length)(hr:∀(j:Nat) (p:V) (q:Value),cs[j]? =some p->cs'[j]? =some q->p.good=true/\VRel (Mut mo own) own.rho w p q):
  VRel (Mut mo own) own.rho (w.alloc (.cells cs' T)) (.ref cs) (.pointer (some ⟨w.heap.size,0,none⟩)):=by
 have key:∀(j:Nat) (x:V),cs[j]? =some x->cs'[j]? =some (cs'.getD j undef):=by
  intro j x hx
  have hlt:j<cs'.size:=by rw [hs];exact (List.getElem?_eq_some_iff.1 hx).1
  simp [Array.getD_eq_getD_getElem?,hlt]
 refine .ref cs _ 0 (fun j=>cs'.getD j undef) (az6 _ fun v hv=>?_) ?_ ?_
 ·obtain ⟨j,hj⟩:=List.getElem?_of_mem hv
  exact (hr j v _ hj (key j v hj)).1
 ·intro j x hx
  rw [Nat.zero_add,cell_of_heap (heap_alloc_new _),key j x hx]
  exact ⟨rfl,h.new_free _ _ (Nat.le_refl _)⟩
 ·intro j x hx
  exact (aU6 h _).v (hr j x _ hx (key j x hx)).2
theorem bw2 {i:Nat}:∀(l:List (V×Tag)),aT7 i l=true->∀(j:Nat) (o:Nat) (tag:Tag),l[j]? ≠some (.loc i o,tag)
 | [],_,j,o,tag,h=>by simp at h
 | (v,t)::r,hn,j,o,tag,h=>by
  cases j with
  | zero=>
   simp at h
   obtain ⟨rfl,rfl⟩:=h
   simp [aT7] at hn
  | succ j=>
   refine bw2 r ?_ j o tag (by simpa using h)
   cases v<;>first | exact hn | (simp only [aT7,Bool.and_eq_true] at hn;exact hn.2)
theorem rho_loc (i:Nat)(r:Option Reg):(own.set (.loc i) r).rho=own.rho:=by
 funext j
 exact bu1 (by simp) (by simp)
theorem bq3 {k:Key}{b x:Nat}(h:(own.set k none).has b x):own.has b x:=by
 obtain ⟨k',r,e,hr⟩:=h
 by_cases q:k'=k
 ·subst q;rw [Own.ab7] at e;cases e
 ·rw [Own.ab6 _ _ q] at e;exact ⟨_,_,e,hr⟩
theorem FR.dropLoc (h:FR P H mo acc w0 own st a w)(i:Nat)(hn:aT7 i st.t=true):FR P H mo acc w0 (own.set (.loc i) none) {st with a:=st.a.set i []} a w/\Stay mo own (own.set (.loc i) none) w w:=by
 have p:Post mo own w (own.set (.loc i) none) w (·=.loc i):=
  ⟨Keep.refl _ _,fun b x hx=>.inl (bq3 hx),fun k r l e=>.inl (by
   by_cases q:k=.loc i
   ·subst q;rw [Own.ab7] at e;cases e
   ·rw [Own.ab6 _ _ q] at e;exact ⟨k,r,l,e,rfl⟩),fun id b hb=>by rw [rho_loc];exact hb,fun k r hk hT=>⟨by rw [Own.ab6 _ _ hT];exact hk,fun _=>rfl⟩,fun k hT hk=>by rw [Own.ab6 _ _ hT];exact hk,h.sr.base.erase _⟩
 have hs:=p.stay
 refine ⟨?_,hs⟩
 have htok:∀g,own.set (.loc i) none (.tok g)=own (.tok g):=fun g=>Own.ab6 _ _ (by simp)
 exact {
  sr:=⟨p.base,fun id o ho=>aP0.post p (h.sr.objs id o ho) (by simp) (by simp),fun id hi=>at1 (by simp) (by simp) (h.sr.newObj id hi),fun id off r e=>by rw [Own.ab6 _ _ (by simp)] at e;exact h.sr.spare id off r e⟩
  keep:=h.keep
  old:=fun b x hb hx=>h.old b x hb (bq3 hx)
  oldB:=fun k r l e hr=>by
   by_cases q:k=.loc i
   ·subst q;rw [Own.ab7] at e;cases e
   ·rw [Own.ab6 _ _ q] at e;exact h.oldB k r l e hr
  mlt:=h.mlt
  rho0:=fun id b e=>by rw [rho_loc];exact h.rho0 id b e
  size:=h.size
  slot:=fun j v tag x hv hx=>by
   obtain ⟨r1,r2⟩:=h.slot j v tag x hv hx
   refine ⟨?_,r2.mono (Nat.le_refl _) (fun g _ hg=>hg) (fun g _ _=>htok g)⟩
   cases v with
   | undef=>trivial
   | loc i2 o2=>
    obtain ⟨b,n,q1,q2⟩:=r1
    have:i2≠i:=by
     rintro rfl
     exact bw2 _ hn j o2 tag hv
    exact ⟨b,n,by rw [Own.ab6 _ _ (by simpa using this)];exact q1,q2⟩
   | _=>exact XRel.of (hs.v r1)
  arena:=fun j box hb=>by
   simp only at hb
   rw [List.getElem?_set] at hb
   by_cases e:i=j
   ·subst e
    rw [if_pos rfl] at hb
    split at hb<;>simp at hb
    subst hb
    exact fun q=>absurd rfl q
   ·rw [if_neg e] at hb
    exact bs1.post p (h.arena j box hb) (by simpa using fun q=>e q.symm) (Nat.le_refl _) (fun g _ hm=>⟨hm,by simp⟩)
  newTok:=fun g hg=>by rw [htok];exact h.newTok g hg
  tokLt:=h.tokLt
  newLoc:=fun j hj=>by
   by_cases q:Key.loc j=.loc i
   ·rw [q];exact Own.ab7 _ _ _
   ·rw [Own.ab6 _ _ q]
    refine h.newLoc j ?_
    simp only [List.getD_eq_getElem?_getD] at hj ⊢
    rw [List.getElem?_set,if_neg (fun e=>q (by rw [e]))] at hj
    exact hj
  dsize:=h.dsize
  dfr:=fun j d d' e e'=>(h.dfr j d d' e e').post p
  marks:=h.marks
  glob:=fun g cs e=>by
   obtain ⟨f,h1,h2,h3⟩:=h.glob g cs e
   exact ⟨f,h1,fun j x hx=>hs.cell _ _ _ (h2 j x hx).1 (h2 j x hx).2,fun j x hx=>hs.v (h3 j x hx)⟩}
theorem aC2 {v:V}{x:Value}(h:nilB v=true)(id off:Nat):aA6 own id off v x:=by
 intro k es b o n c e _
 subst e
 simp [nilB] at h
theorem nil_tag {M:Nat->Nat->Prop}{ρ:Nat->Option (Nat×Nat)}{l:List Nat}{g0:Nat}{v:V}{x:Value}(h:VRel M ρ w v x):TRel own l g0 v (aV1 v) x:=by
 unfold aV1
 cases hb:nilB v with
 | false=>trivial
 | true=>
  intro a n c e
  subst e
  cases h with
  | nillist=>rfl
  | list=>simp [nilB] at hb
  | slo=>simp [nilB] at hb
theorem newBox0_run (h:FR P H mo acc w0 own st a w)(f:FuncId)(dst:Nat)(T:TypeId)(cs:List V)(x:Value)(hs:x.cells.size=cs.length)
  (hx:∀(j:Nat) (p:V) (q:Value),cs[j]? =some p->x.cells[j]? =some q->p.good=true/\VRel (Mut mo own) own.rho w p q) (r:V×Tag) (st':St) (hr:aE8 H f dst cs st=some (r,st')):
  ∃y w' own',(newVar T x).run P w=.ok y w'/\FR P H mo acc w0 own' st' a w'/\XRel (Mut mo own') own' w' r.1 (.pointer (some y))/\r.2=.no/\st'.t=st.t:=by
 unfold aE8 at hr
 obtain ⟨hg,hq⟩:=aa2 hr
 clear hr
 have hrun:(newVar T x).run P w=.ok ⟨w.heap.size,0,none⟩ (w.alloc (.cells x.cells T)):=by
  unfold newVar newRow newObj
  rfl
 have hmo:∀b x,mo b x->b<w.heap.size:=fun b x hm=>Nat.lt_of_lt_of_le (h.mlt b x hm) h.keep.size
 split at hq
 ·simp only [Option.some.injEq] at hq
  injection hq with e1 e2
  subst e1;subst e2
  exact ⟨_,_,own,hrun,h.alloc _,XRel.of (new_cells h cs x.cells T hs hx),rfl,rfl⟩
 ·simp only [Option.some.injEq] at hq
  injection hq with e1 e2
  subst e1;subst e2
  obtain ⟨hk,hgh⟩:=h.sr.newObj _ (Nat.le_refl st.s.length)
  have p:=Post.aE1 (mo:=mo) h.sr.base hmo (.cells x.cells T) (.obj st.s.length) hk 0 x.cells.size (by simp [Key.room]) (fun id e=>by injection e with e;subst e;exact Own.aQ7 hk hgh)
  refine ⟨_,_,_,hrun,h.post p rfl rfl (Nat.le_refl _) (fun g _ hm=>⟨hm,by simp⟩) h.tokLt (fun g hm=>by rw [Own.ab6 _ _ (by simp)];exact h.newTok g hm) (fun i r e=>by rw [Own.ab6 _ _ (by simp)];exact e)
   (fun i box hb=>.inl ⟨hb,by simp⟩) (fun i hi=>by rw [Own.ab6 _ _ (by simp)];exact h.newLoc i hi) ?_ ?_ ?_,XRel.of (.obj _ 0 _ (Own.aj0 (Own.ab7 _ _ _))),rfl,rfl⟩
  ·intro id o ho
   rw [List.getElem?_append] at ho
   split at ho
   ·rename_i hlt
    exact .inl ⟨ho,by simp;omega,by simp⟩
   ·rename_i hge
    have:id=st.s.length:=by
     have:=(List.getElem?_eq_some_iff.1 ho).1
     simp at this;omega
    subst this
    simp at ho
    subst ho
    right
    refine ⟨w.heap.size,x.cells,T,by rw [Own.ab7],heap_alloc_new _,by simp [hs],fun j v fl y hj hy=>?_⟩
    rw [List.getElem?_map] at hj
    obtain ⟨v',hv',e⟩:=Option.map_eq_some_iff.1 hj
    injection e with e1 e2
    subst e1;subst e2
    exact ⟨(hx j v' y hv' hy).1,p.stay.v (hx j v' y hv' hy).2,fun hf=>aC2 hf _ _⟩
  ·intro id hi
   simp at hi
   exact at1 (by simp;omega) (by simp) (h.sr.newObj id (by omega))
  ·intro id off r e
   rw [Own.ab6 _ _ (by simp)] at e
   obtain ⟨cs2,v,c1,c2⟩:=h.sr.spare id off r e
   exact ⟨cs2,v,by rw [List.getElem?_append_left (List.getElem?_eq_some_iff.1 c1).1];exact c1,c2⟩
 ·obtain ⟨hne,hq⟩:=aa2 hq
  generalize H.site f dst=i at hq
  split at hq
  ·rename_i hai
   simp only [Option.some.injEq] at hq
   injection hq with e1 e2
   subst e1;subst e2
   have hlt:i<st.a.length:=(List.getElem?_eq_some_iff.1 hai).1
   have hk:own (.loc i)=none:=h.newLoc i (by rw [List.getD_eq_getElem?_getD,hai];rfl)
   have p:=Post.aE1 (mo:=mo) h.sr.base hmo (.cells x.cells T) (.loc i) hk 0 cs.length (by simp [Key.room]) (fun id e=>by cases e)
   refine ⟨_,_,_,hrun,h.post p rfl rfl (Nat.le_refl _) (fun g _ hm=>⟨hm,by simp⟩) h.tokLt (fun g hm=>by rw [Own.ab6 _ _ (by simp)];exact h.newTok g hm) (fun j r e=>?_)
    ?_ ?_ (fun id o ho=>.inl ⟨ho,by simp,by simp⟩) (fun id hi=>at1 (by simp) (by simp) (h.sr.newObj id hi)) (fun id off r e=>by rw [Own.ab6 _ _ (by simp)] at e;exact h.sr.spare id off r e),⟨_,_,Own.ab7 _ _ _,rfl⟩,rfl,rfl⟩
   ·by_cases q:Key.loc j=.loc i
    ·rw [q,hk] at e;cases e
    ·rw [Own.ab6 _ _ q];exact e
   ·intro j box hb
    simp only at hb
    rw [List.getElem?_set] at hb
    by_cases e:i=j
    ·subst e
     rw [if_pos rfl,if_pos hlt] at hb
     simp only [Option.some.injEq] at hb
     subst hb
     right
     intro _
     refine ⟨w.heap.size,x.cells,T,by rw [Own.ab7];simp,heap_alloc_new _,by simpa using hs,fun j v tag y hj hy=>?_⟩
     rw [List.getElem?_map] at hj
     obtain ⟨v',hv',e⟩:=Option.map_eq_some_iff.1 hj
     injection e with e1 e2
     subst e1;subst e2
     exact ⟨(hx j v' y hv' hy).1,p.stay.v (hx j v' y hv' hy).2,nil_tag (hx j v' y hv' hy).2⟩
    ·rw [if_neg e] at hb
     exact .inl ⟨hb,by simpa using fun q=>e q.symm⟩
   ·intro j hj
    simp only [List.getD_eq_getElem?_getD] at hj
    rw [List.getElem?_set] at hj
    by_cases e:i=j
    ·subst e
     rw [if_pos rfl,if_pos hlt] at hj
     simp at hj hne
     exact absurd hj hne
    ·rw [if_neg e] at hj
     rw [Own.ab6 _ _ (by simpa using fun q=>e q.symm)]
     exact h.newLoc j (by rw [List.getD_eq_getElem?_getD];exact hj)
  ·cases hq
theorem bb1 {f:FuncId}{dst:Nat}{cs:List V}{st:St}{r:(V×Tag)×St}(h:aC3 H f dst cs st=some r):ac5 cs=true:=by
 unfold aC3 at h
 obtain ⟨cs',hn,h⟩:=Option.bind_eq_some_iff.1 h
 unfold aE8 at h
 have hg:=(aa2 h).1
 cases hc:H.cells f dst with
 | none=>rw [hc] at hn;simp only [bv9,Option.some.injEq] at hn;subst hn;exact hg
 | some l=>rw [hc] at hn;simp only [bv9] at hn;rw [←(av8 _ _ _ hn).1];exact hg
theorem bq0 (h:FR P H mo acc w0 own st a w)(f:FuncId)(dst:Nat)(T:TypeId)(cs:List V)(x:Value)(hs:x.cells.size=cs.length)
  (hx:∀(j:Nat) (p:V) (q:Value),cs[j]? =some p->x.cells[j]? =some q->p.good=true/\VRel (Mut mo own) own.rho w p q) (r:V×Tag) (st':St) (hr:aC3 H f dst cs st=some (r,st')):
  ∃y w' own',(newVar T x).run P w=.ok y w'/\FR P H mo acc w0 own' st' a w'/\XRel (Mut mo own') own' w' r.1 (.pointer (some y))/\r.2=.no/\st'.t=st.t:=by
 unfold aC3 at hr
 obtain ⟨cs',hn,hr⟩:=Option.bind_eq_some_iff.1 hr
 have key:cs'.length=cs.length/\∀(j:Nat) (p:V) (q:Value),cs'[j]? =some p->x.cells[j]? =some q->p.good=true/\VRel (Mut mo own) own.rho w p q:=by
  cases hc:H.cells f dst with
  | none=>rw [hc] at hn;simp only [bv9,Option.some.injEq] at hn;subst hn;exact ⟨rfl,hx⟩
  | some l=>
   rw [hc] at hn
   simp only [bv9] at hn
   obtain ⟨e1,e2⟩:=av8 _ _ _ hn
   refine ⟨e2,fun j p q hp hq=>⟨?_,?_⟩⟩
   ·have hg:ac5 cs=true:=az6 _ fun v hv=>by
     obtain ⟨i,hi⟩:=List.getElem?_of_mem hv
     have hlt:i<x.cells.size:=by rw [hs];exact (List.getElem?_eq_some_iff.1 hi).1
     exact (hx i v _ hi (Array.getElem?_eq_getElem hlt)).1
    exact ap9 _ _ _ (by rw [e1];exact hg) hp
   ·have:=aG2 (M:=Mut mo own) (ρ:=own.rho) (w:=w) l cs cs' hn (fun j=>x.cells.getD j undef) (fun j y hy=>(hx j y _ hy (by
     have hlt:j<x.cells.size:=by rw [hs];exact (List.getElem?_eq_some_iff.1 hy).1
     simp [Array.getD_eq_getD_getElem?,hlt])).2) j p hp
    rwa [show x.cells.getD j undef=q by simp [Array.getD_eq_getD_getElem?,hq]] at this
 exact newBox0_run h f dst T cs' x (by rw [key.1];exact hs) key.2 r st' hr
end
end Go.Proofs.YtnpjififnhjbbaaDoor.E
namespace Go.Proofs.YtnpjififnhjbbaaDoor.E
open Go
theorem Base.sub {mo own own' w}(h:Base mo own w)(hs:∀k r,own' k=some r->own k=some r):Base mo own' w:=
 ⟨fun k1 r1 k2 r2 l1 l2 e1 e2 e=>h.inj _ _ _ _ l1 l2 (hs _ _ e1) (hs _ _ e2) e,fun id r e=>h.gone id r (hs _ _ e),fun k r e=>h.lt _ _ (hs _ _ e),fun k r b x e=>h.off _ _ b x (hs _ _ e),fun k r e=>h.room _ _ (hs _ _ e)⟩
def Own.clr (o:Own)(id off n:Nat):Own
 | .spare i j=>if i=id/\off<=j/\j<off+n then none else o (.spare i j)
 | k=>o k
theorem Own.aS8 (o:Own)(id off n:Nat)(k:Key)(r:Reg)(h:o.clr id off n k=some r):o k=some r:=by
 cases k<;>simp only [Own.clr] at h<;>first | exact h | (split at h;(simp at h);exact h)
section
variable {P:Program} {H:ae2} {mo:Nat->Nat->Prop} {acc:Own} {w0:World} {own:Own} {st:St} {a:Act} {w:World}
theorem regOk_row {g:Nat}{cs cs':Array Value}{T:TypeId}(hg:w.heap[g]? =some (.cells cs T (0,0)))(hs:cs'.size=cs.size){r:Reg}(h:bp7 w r):bp7 (w.setRow g cs') r:=by
 obtain ⟨h1,c2,T2,h2,h3⟩:=h
 by_cases e:r.1=g
 ·rw [e,hg] at h2
  injection h2 with h2
  injection h2 with q1 q2 q3
  subst q1
  exact ⟨h1,cs',T,by rw [e];exact setRow_heap w g cs cs' T (0,0) hg,by omega⟩
 ·exact ⟨h1,c2,T2,by rw [setRow_other w g r.1 cs' e];exact h2,h3⟩
theorem Keep.row {g:Nat}{cs cs':Array Value}{T:TypeId}(hg:w.heap[g]? =some (.cells cs T (0,0)))(hk:∀x,own.has g x∨cs'[x]? =cs[x]?):Keep own.has w (w.setRow g cs') where
 os:=rfl
 tape:=rfl
 output:=rfl
 size:=by simp
 block b hb hn:=by
  by_cases e:b=g
  ·subst e
   have:cs'=cs:=by
    apply Array.ext_getElem?
    intro x
    exact (hk x).resolve_left (hn x)
   rw [this,setRow_self w b cs T (0,0) hg]
  ·exact setRow_other w g b cs' e
 cell b x v hc hn:=by
  by_cases e:b=g
  ·subst e
   rw [cell_setRow_same w b x cs cs' T (0,0) hg,←hc,cell_of_heap hg]
   exact (hk x).resolve_left hn
  ·rw [cell_setRow_other w g cs' ⟨b,x,none⟩ e];exact hc
theorem Post.row (h:Base mo own w){k:Key}{r:Reg}(hk:own k=some r){cs cs':Array Value}{T:TypeId}(hg:w.heap[r.1]? =some (.cells cs T (0,0)))(hs:cs'.size=cs.size)(ho:∀x,(r.2.1<=x/\x<r.2.2)∨cs'[x]? =cs[x]?)
  (own':Own) (hsub:∀b x,own'.has b x->own.has b x) (hsubB:∀k r,k.live=true->own' k=some r->∃k0 r0,k0.live=true/\own k0=some r0/\r0.1=r.1) (T':Key->Prop) (hT:T' k) (hsame:∀k,¬T' k->own' k=own k) (hb:Base mo own' w) (hrho:own'.rho=own.rho) (hkl:k.live=true:=by rfl):Post mo own w own' (w.setRow r.1 cs') T' where
 keep:=Keep.row hg fun x=>(ho x).imp (fun hx=>⟨k,r,hk,rfl,hx⟩) (fun e=>e)
 sub b x hx:=.inl (hsub b x hx)
 subB k r l e:=.inl (hsubB k r l e)
 rho id b hb:=by rw [hrho];exact hb
 same k' r' hk' hT':=by
  refine ⟨by rw [hsame k' hT'];exact hk',fun l=>setRow_other w r.1 r'.1 cs' fun e=>hT' ?_⟩
  rw [h.inj _ _ _ _ l hkl hk' hk e];exact hT
 new k' hT' hk':=by rw [hsame k' hT'];exact hk'
 base:=⟨hb.inj,hb.gone,fun k r e=>by rw [setRow_size];exact hb.lt k r e,hb.off,fun k r e hr=>regOk_row hg hs (hb.room k r e hr)⟩
theorem an7 {α:Type}(l xs:List α)(off j:Nat)(h:off+xs.length<=l.length):(ae3 l off xs)[j]? =if off<=j/\j<off+xs.length then xs[j-off]? else l[j]? :=by
 unfold ae3
 by_cases h1:j<off
 ·rw [if_neg (by omega),List.append_assoc,List.getElem?_append_left (by simp;omega),List.getElem?_take,if_pos h1]
 ·by_cases h2:j<off+xs.length
  ·rw [if_pos ⟨by omega,h2⟩,List.getElem?_append_left (by simp;omega),List.getElem?_append_right (by simp;omega)]
   congr 1
   simp;omega
  ·rw [if_neg (by omega),List.getElem?_append_right (by simp;omega),List.getElem?_drop]
   congr 1
   simp;omega
theorem av2 {α:Type}(l xs:List α)(off:Nat)(h:off+xs.length<=l.length):(ae3 l off xs).length=l.length:=by
 simp [ae3];omega
theorem ap6 (cs:Array Value)(xs:List Value)(off j:Nat)(h:off+xs.length<=cs.size):
  (cs.toList.take (off+0)++xs++cs.toList.drop (off+0+xs.length)).toArray[j]? =if off<=j/\j<off+xs.length then xs[j-off]? else cs[j]? :=by
 have:=an7 cs.toList xs off j (by simpa using h)
 unfold ae3 at this
 simpa using this
theorem aZ6 (t:TypeId)(b off:Nat)(x:Value)(n:Nat)(hn:P.cellsOf t=n)(hn0:n≠0)(hx:x.cells.size=n)(h1:∀v∈x.cells.toList,v.oneCell'=true)(cs:Array Value)(T:TypeId)(hg:w.heap[b]? =some (.cells cs T (0,0)))(hfit:off+n<=cs.size):
  (Instr.storeAt t (.pointer (some ⟨b,off,none⟩)) x).run P w=.ok () (w.setRow b (cs.toList.take (off+0)++x.cells.toList++cs.toList.drop (off+0+x.cells.toList.length)).toArray):=by
 have hsz:=aq5 (P:=P) (t:=t) (by omega) w
 have hst:=run_storeCells_at P b off T x.cells.toList 0 cs w hg (by simp;omega) h1
 unfold Instr.storeAt storeVar
 simp only [Instr.sureAddr]
 refine (ab3 (w1:=w) (r:=⟨b,off,none⟩) rfl).trans ?_
 refine (ab3 hsz).trans ?_
 rw [hn]
 simp only [hx,ne_eq,not_true_eq_false,if_false]
 exact hst
theorem ones_of {v:V}{x:Value}{M:Nat->Nat->Prop}(h:XRel M own w v x)(hg:ac5 v.cells=true):∀y∈x.cells.toList,y.oneCell'=true:=by
 intro y hy
 obtain ⟨j,hj⟩:=List.getElem?_of_mem hy
 obtain ⟨h1,h2⟩:=am5 h hg
 have hlt:j<v.cells.length:=by rw [←h1];have:=(List.getElem?_eq_some_iff.1 hj).1;simpa using this
 obtain ⟨g1,g2⟩:=h2 j _ y (List.getElem?_eq_getElem hlt) (by simpa using hj)
 exact (g2.one g1).2
theorem FR.store (h:FR P H mo acc w0 own st a w){id off n:Nat}{box:List (V×Bool)}(hbox:st.s[id]? =some (.box box))(hfit:off+n<=box.length)(xs:List Value)(hxs:xs.length=n){b:Nat}{cs:Array Value}{T:TypeId}
  (g1:own (.obj id)=some (b,0,cs.size)) (g2:w.heap[b]? =some (.cells cs T (0,0))) (g3:box.length<=cs.size) (new:List (V×Bool)) (hnew:new.length=n) (cs':Array Value) (hs':cs'.size=cs.size)
  (hsp:∀j:Nat,cs'[j]? =if off<=j/\j<off+n then xs[j-off]? else cs[j]?) (l':List Nat) (own':Own) (G:Nat->Prop)
  (hl1:∀g,g∈l'->g∈st.l/\¬G g) (hl2:∀g,g∉l'->own' (.tok g)=none)
  (ho1:∀k,(∀j,k≠.spare id j)->(∀g,G g->k≠.tok g)->own' k=own k) (ho2:∀j,¬(off<=j/\j<off+n)->own' (.spare id j)=own (.spare id j))
  (ho3:∀j r,off<=j->j<off+n->own' (.spare id j)=some r->∃v,new[j-off]? =some (v,true)) (hsub:∀k r,own' k=some r->∃k2,(k.live=true->k2.live=true)/\own k2=some r) (hb:Base mo own' w)
  (hn:∀(j:Nat) (v:V) (fl:Bool) (y:Value),new[j]? =some (v,fl)->xs[j]? =some y->v.good=true/\VRel (Mut mo own) own.rho w v y/\(fl=true->aA6 own' id (off+j) v y)):
  FR P H mo acc w0 own' {st with l:=l',s:=st.s.set id (.box (ae3 box off new))} a (w.setRow b cs'):=by
 have hobj:∀i,own' (.obj i)=own (.obj i):=fun i=>ho1 _ (by simp) (by simp)
 have hloc:∀i,own' (.loc i)=own (.loc i):=fun i=>ho1 _ (by simp) (by simp)
 have hgh:∀i,own' (.ghost i)=own (.ghost i):=fun i=>ho1 _ (by simp) (by simp)
 have hrho:own'.rho=own.rho:=by funext i;exact Own.ap7 (hobj i) (hgh i)
 have p:=Post.row (mo:=mo) h.sr.base g1 g2 hs' (fun x0=>by
  rw [hsp x0]
  split
  ·rename_i hh;left;simp;omega
  ·exact .inr rfl) own' (fun b x ⟨k,r,e,hr⟩=>let ⟨k2,_,e2⟩:=hsub k r e;⟨k2,r,e2,hr⟩) (fun k r l e=>let ⟨k2,l2,e2⟩:=hsub k r e;⟨k2,r,l2 l,e2,rfl⟩) (fun k=>k=.obj id∨(∃j,k=.spare id j)∨∃g,G g/\k=.tok g) (.inl rfl) (fun k hk=>ho1 k (fun j e=>hk (.inr (.inl ⟨j,e⟩))) (fun g hg e=>hk (.inr (.inr ⟨g,hg,e⟩)))) hb hrho
 refine h.post p rfl rfl (Nat.le_refl _) (fun g _ hm=>⟨(hl1 g hm).1,by simp;exact (hl1 g hm).2⟩) (fun g hm=>h.tokLt g (hl1 g hm).1) hl2 (fun i r e=>by rw [hloc];exact e)
  (fun i bx hbx=>.inl ⟨hbx,by simp⟩) (fun i hi=>by rw [hloc];exact h.newLoc i hi) ?_ (fun i hi=>by rw [hobj,hgh];exact h.sr.newObj i (by simpa using hi)) ?_
 ·intro i o ho
  rw [List.getElem?_set] at ho
  by_cases e:id=i
  ·subst e
   rw [if_pos rfl] at ho
   split at ho<;>simp at ho
   subst ho
   right
   obtain ⟨b2,cs2,T2,q1,q2,q3,q4⟩:=ar2 h.sr hbox
   rw [g1] at q1
   injection q1 with q1
   injection q1 with q1 _
   subst q1
   rw [g2] at q2
   injection q2 with q2
   injection q2 with q2 _ _
   subst q2
   refine ⟨b,cs',T,by rw [hobj,hs'];exact g1,setRow_heap w b cs cs' T (0,0) g2,by rw [av2 _ _ _ (by omega)];omega,fun j v fl y hj hy=>?_⟩
   rw [an7 _ _ _ _ (by omega),hnew] at hj
   rw [hsp j] at hy
   split at hj
   ·rename_i hin
    rw [if_pos hin] at hy
    obtain ⟨r1,r2,r3⟩:=hn _ _ _ _ hj hy
    rw [show off+(j-off)=j from by omega] at r3
    exact ⟨r1,p.stay.v r2,r3⟩
   ·rename_i hin
    rw [if_neg hin] at hy
    obtain ⟨r1,r2,r3,r4⟩:=q4 j v fl hj
    have e5:cs.getD j undef=y:=by simp [Array.getD_eq_getD_getElem?,hy]
    rw [e5] at r3 r4
    refine ⟨r2,p.stay.v r3,fun hf=>?_⟩
    have:=r4 hf
    unfold aA6 at this ⊢
    rw [ho2 j hin]
    exact this
  ·rw [if_neg e] at ho
   refine .inl ⟨ho,by simp;omega,fun o2=>by simp;intro e2;exact absurd e2.symm e⟩
 ·intro i o2 r e
  by_cases ei:i=id
  ·subst ei
   by_cases hin:off<=o2/\o2<off+n
   ·obtain ⟨v,hv⟩:=ho3 o2 r hin.1 hin.2 e
    refine ⟨ae3 box off new,v,?_,?_⟩
    ·rw [List.getElem?_set,if_pos rfl,if_pos (List.getElem?_eq_some_iff.1 hbox).1]
    ·rw [an7 _ _ _ _ (by omega),hnew,if_pos hin];exact hv
   ·rw [ho2 o2 hin] at e
    obtain ⟨c1,v,e1,e2⟩:=h.sr.spare i o2 r e
    rw [hbox] at e1
    injection e1 with e1;injection e1 with e1
    subst e1
    refine ⟨ae3 box off new,v,?_,?_⟩
    ·rw [List.getElem?_set,if_pos rfl,if_pos (List.getElem?_eq_some_iff.1 hbox).1]
    ·rw [an7 _ _ _ _ (by omega),hnew,if_neg hin];exact e2
  ·rw [ho1 _ (by simp;intro q;exact absurd q ei) (by simp)] at e
   obtain ⟨c1,v,e1,e2⟩:=h.sr.spare i o2 r e
   exact ⟨c1,v,by rw [List.getElem?_set,if_neg (fun q=>ei q.symm)];exact e1,e2⟩
theorem storeV_run (h:FR P H mo acc w0 own st a w)(t:TypeId)(p:V)(p':Value)(hp:XRel (Mut mo own) own w p p')(v:V×Tag)(x:Value)(hx:XRel (Mut mo own) own w v.1 x)(htag:TRel own st.l st.g v.1 v.2 x)(st':St)(hr:at7 P t p v st=some st'):
  ∃w' own',(Instr.storeAt t p' x).run P w=.ok () w'/\FR P H mo acc w0 own' st' a w'/\st'.t=st.t:=by
 unfold at7 at hr
 simp only at hr
 have hr0:=aa2 hr
 clear hr
 obtain ⟨hc,hr⟩:=hr0
 simp at hc
 obtain ⟨⟨hlen,hgood⟩,hn0⟩:=hc
 obtain ⟨hsz,hcell⟩:=am5 hx hgood
 have hones:=ones_of hx hgood
 split at hr
 ·rename_i i off
  obtain ⟨box,hbox,hq⟩:=Option.bind_eq_some_iff.1 hr
  obtain ⟨hfit,hq⟩:=aa2 hq
  simp at hfit
  simp only [Option.some.injEq] at hq
  subst hq
  obtain ⟨b,cs,T,g1,g2,g3,g4⟩:=br6 h hbox (by rintro rfl;simp at hfit;omega)
  obtain ⟨b',n',g5,rfl⟩:=hp
  rw [g1] at g5
  injection g5 with g5
  injection g5 with g5 _
  subst g5
  have hrun:=aZ6 (P:=P) (w:=w) t b off x _ rfl hn0 (by omega) hones cs T g2 (by omega)
  have hsp:=fun j=>ap6 cs x.cells.toList off j (by simp;omega)
  generalize hnew:(cs.toList.take (off+0)++x.cells.toList++cs.toList.drop (off+0+x.cells.toList.length)).toArray=cs' at hrun hsp
  have hs':cs'.size=cs.size:=by rw [←hnew];simp;omega
  have p:=Post.row (mo:=mo) h.sr.base g1 g2 hs' (fun x0=>by
   rw [hsp x0]
   simp only [Array.length_toList]
   split
   ·rename_i hh;left;simp;omega
   ·exact .inr rfl) own (fun _ _ e=>e) (fun k r l e=>⟨k,r,l,e,rfl⟩) (·=.loc i) rfl (fun _ _=>rfl) h.sr.base rfl
  refine ⟨_,own,hrun,h.post p rfl rfl (Nat.le_refl _) (fun g _ hm=>⟨hm,by simp⟩) h.tokLt h.newTok (fun _ _ e=>e) ?_ (fun i2 hi=>h.newLoc i2 (by
   simp only [List.getD_eq_getElem?_getD] at hi ⊢
   rw [List.getElem?_set] at hi
   by_cases e:i=i2
   ·subst e
    rw [if_pos rfl,if_pos (List.getElem?_eq_some_iff.1 hbox).1] at hi
    have:=congrArg List.length hi
    rw [Option.getD_some,av2 _ _ _ (by unfold spread;split<;>simp<;>(try rename_i hgv;rw [aq0 hgv] at hlen;simp at hlen)<;>omega)] at this
    simp at this
    subst this
    simp at hfit;omega
   ·rw [if_neg e] at hi;exact hi)) (fun id o ho=>.inl ⟨ho,by simp,by simp⟩) h.sr.newObj h.sr.spare,rfl⟩
  intro i2 box2 hb2
  rw [List.getElem?_set] at hb2
  by_cases e:i=i2
  ·subst e
   rw [if_pos rfl] at hb2
   split at hb2<;>simp at hb2
   subst hb2
   right
   have hl2:(spread v).length=P.cellsOf t:=by
    unfold spread
    split
    ·rename_i hgv;rw [←hlen,aq0 hgv];rfl
    ·simp [hlen]
   intro _
   refine ⟨b,cs',T,by rw [av2 _ _ _ (by rw [hl2];omega)];exact g1,setRow_heap w b cs cs' T (0,0) g2,by rw [av2 _ _ _ (by rw [hl2];omega)];omega,fun j v2 tag2 y hj hy=>?_⟩
   rw [an7 _ _ _ _ (by rw [hl2];omega),hl2] at hj
   rw [hsp j] at hy
   simp only [Array.length_toList,hsz,hlen] at hy
   split at hj
   ·rename_i hin
    rw [if_pos hin] at hy
    have hy2:x.cells[j-off]? =some y:=by simpa using hy
    unfold spread at hj
    split at hj
    ·rename_i hgv
     have hj0:j-off=0:=by
      have:=(List.getElem?_eq_some_iff.1 hj).1
      simpa using this
     rw [hj0] at hj hy2
     simp at hj
     subst hj
     obtain ⟨r1,r2⟩:=hcell 0 v2 y (by rw [show V.cells v2=[v2] from aq0 hgv];rfl) hy2
     have hxy:x=y:=by
      have hvr:VRel (Mut mo own) own.rho w v2 x:=XRel.good hx hgv
      rw [(hvr.one hgv).1] at hy2
      simpa using hy2
     subst hxy
     exact ⟨r1,p.stay.v r2,htag⟩
    ·rw [List.getElem?_map] at hj
     obtain ⟨q,hq,e2⟩:=Option.map_eq_some_iff.1 hj
     injection e2 with e3 e4
     subst e3;subst e4
     obtain ⟨r1,r2⟩:=hcell (j-off) q y hq hy2
     exact ⟨r1,p.stay.v r2,nil_tag r2⟩
   ·rename_i hin
    rw [if_neg hin] at hy
    obtain ⟨r1,r2,r3,r4⟩:=g4 j v2 tag2 hj
    have e5:cs.getD j undef=y:=by simp [Array.getD_eq_getD_getElem?,hy]
    rw [e5] at r3 r4
    exact ⟨r2,p.stay.v r3,r4⟩
  ·rw [if_neg e] at hb2
   exact .inl ⟨hb2,by simp;omega⟩
 ·rename_i id off
  split at hr
  ·rename_i box hbox
   obtain ⟨hfit,hq⟩:=aa2 hr
   simp at hfit
   obtain ⟨b,cs,T,g1,g2,g3,g4⟩:=ar2 h.sr hbox
   have hrho:own.rho id=some (b,cs.size):=Own.aj0 g1
   cases hp with
   | obj _ _ b' hb'=>
   rw [hrho] at hb'
   injection hb' with hb'
   injection hb' with hb' _
   subst hb'
   have hrun:=aZ6 (P:=P) (w:=w) t b off x _ rfl hn0 (by omega) hones cs T g2 (by omega)
   have hsp:=fun j=>ap6 cs x.cells.toList off j (by simp;omega)
   generalize hnew:(cs.toList.take (off+0)++x.cells.toList++cs.toList.drop (off+0+x.cells.toList.length)).toArray=cs' at hrun hsp
   have hs':cs'.size=cs.size:=by rw [←hnew];simp;omega
   have hsp':∀j:Nat,cs'[j]? =if off<=j/\j<off+P.cellsOf t then x.cells.toList[j-off]? else cs[j]? :=by
    intro j
    rw [hsp j]
    simp only [Array.length_toList,hsz,hlen]
   have plain:∀fl:V->Bool,(∀(j:Nat) (q:V) (y:Value),v.1.cells[j]? =some q->x.cells[j]? =some y->fl q=true->nilB q=true∨∀a n c,y=.slice a n c->c=n)->FR P H mo acc w0 (own.clr id off (P.cellsOf t)) {st with s:=st.s.set id (.box (ae3 box off (v.1.cells.map fun c=>(c,fl c))))} a (w.setRow b cs'):=by
    intro fl hfl
    refine h.store hbox hfit x.cells.toList (by simp;omega) g1 g2 g3 (v.1.cells.map fun c=>(c,fl c)) (by simp;omega) cs' hs' hsp' st.l _ (fun _=>False) (fun g hm=>⟨hm,fun q=>q⟩) (fun g hm=>?_) (fun k hk _=>?_) (fun j hj=>?_) (fun j r j1 j2 e=>?_) (fun k r e=>⟨k,fun l=>l,Own.aS8 _ _ _ _ _ _ e⟩) (h.sr.base.sub fun k r e=>Own.aS8 _ _ _ _ _ _ e) (fun j v2 fl y hj hy=>?_)
    ·show own (.tok g)=none
     exact h.newTok g hm
    ·cases k with
     | spare i j=>simp only [Own.clr];rw [if_neg];rintro ⟨rfl,_⟩;exact hk j rfl
     | _=>rfl
    ·simp only [Own.clr];rw [if_neg];exact fun q=>hj q.2
    ·simp [Own.clr,j1,j2] at e
    ·rw [List.getElem?_map] at hj
     obtain ⟨q,hq,e2⟩:=Option.map_eq_some_iff.1 hj
     injection e2 with e3 e4
     subst e3;subst e4
     obtain ⟨r1,r2⟩:=hcell j q y hq (by simpa using hy)
     exact ⟨r1,r2,fun hf=>(hfl j q y hq (by simpa using hy) hf).elim (fun hf=>aC2 hf _ _) fun hn _ _ _ _ n c _ he=>.inl (hn _ n c he)⟩
   split at hq
   ·rename_i g htg
    split at hq
    ·rename_i hgl
     simp only [Option.some.injEq] at hq
     subst hq
     simp at hgl
     obtain ⟨hgv,hgl⟩:=hgl
     have hn1:P.cellsOf t=1:=by rw [←hlen,aq0 hgv];rfl
     have hvr:VRel (Mut mo own) own.rho w v.1 x:=hx.good hgv
     have hxc:=(hvr.one hgv).1
     let own1:=own.clr id off 1
     let own2:=own1.set (.tok g) none
     let own':=own2.set (.spare id off) (own (.tok g))
     have hb1:Base mo own2 w:=(h.sr.base.sub fun k r e=>Own.aS8 own id off 1 k r e).erase _
     have hne2:∀k r,own2 k=some r->own k=some r/\k≠.tok g/\k≠.spare id off:=by
      intro k r e
      by_cases q:k=.tok g
      ·subst q;rw [show own2 (.tok g)=none from Own.ab7 _ _ _] at e;cases e
      ·rw [show own2 k=own1 k from Own.ab6 _ _ q] at e
       refine ⟨Own.aS8 _ _ _ _ _ _ e,q,?_⟩
       rintro rfl
       rw [show own1 (.spare id off)=none from by simp [own1,Own.clr]] at e
       cases e
     have hb':Base mo own' w:=by
      show Base mo (own2.set (.spare id off) (own (.tok g))) w
      cases e:own (.tok g) with
      | none=>exact hb1.erase _
      | some r=>
       refine hb1.add _ r (fun k' r' hk' l' e' he=>?_) (h.sr.base.lt _ _ e) (fun b x hx=>h.sr.base.off _ _ _ _ e hx) (fun _=>h.sr.base.room _ _ e rfl)
       obtain ⟨z1,z2,z3⟩:=hne2 _ _ e'
       exact z2 (h.sr.base.inj _ _ _ _ l' rfl z1 e he)
     have hk':∀k,k≠.spare id off->k≠.tok g->own' k=own k:=by
      intro k z1 z2
      show own2.set (.spare id off) (own (.tok g)) k=_
      rw [Own.ab6 _ _ z1]
      show own1.set (.tok g) none k=_
      rw [Own.ab6 _ _ z2]
      show own.clr id off 1 k=_
      cases k with
      | spare i j=>simp only [Own.clr];rw [if_neg];rintro ⟨rfl,z3,z4⟩;exact z1 (by congr;omega)
      | _=>rfl
     refine ⟨_,own',hrun,?_,rfl⟩
     refine h.store hbox (n:=1) (by omega) x.cells.toList (by simp [hxc]) g1 g2 g3 [(v.1,true)] rfl cs' hs' (by rw [←hn1];exact hsp') (st.l.filter (· !=g)) own' (·=g) (fun g2 hm=>?_) (fun g2 hm=>?_) (fun k hk hk2=>hk' k (hk off) (hk2 g rfl)) (fun j hj=>hk' _ (by simp;omega) (by simp)) (fun j r j1 j2 e=>?_) (fun k r e=>?_) hb' (fun j v2 fl y hj hy=>?_)
     ·simpa using hm
     ·by_cases z:g2=g
      ·subst z
       show own2.set (.spare id off) (own (.tok g2)) (.tok g2)=none
       rw [Own.ab6 _ _ (by simp)]
       exact Own.ab7 _ _ _
      ·rw [hk' _ (by simp) (by simpa using z)]
       refine h.newTok g2 fun hm2=>hm ?_
       simp;exact ⟨hm2,z⟩
     ·obtain rfl:j=off:=by omega
      exact ⟨v.1,by simp⟩
     ·by_cases z1:k=.spare id off
      ·subst z1
       rw [show own' (.spare id off)=own (.tok g) from Own.ab7 _ _ _] at e
       exact ⟨_,fun _=>rfl,e⟩
      ·rw [show own' k=own2 k from Own.ab6 _ _ z1] at e
       exact ⟨k,fun l=>l,(hne2 _ _ e).1⟩
     ·cases j with
      | succ j=>simp at hj
      | zero=>
       simp at hj
       obtain ⟨rfl,rfl⟩:=hj
       rw [hxc] at hy
       simp at hy
       subst hy
       refine ⟨hgv,hvr,fun _ k es b' o n' c hv' hx'=>?_⟩
       rw [htg] at htag
       have:=htag.2 hgl k es b' o n' c hv' hx'
       rw [show own' (.spare id (off+0))=own (.tok g) from Own.ab7 _ _ _]
       exact this
    ·simp only [Option.some.injEq] at hq
     subst hq
     exact ⟨_,_,hrun,plain nilB fun _ _ _ _ _ h=>.inl h,rfl⟩
   ·simp only [Option.some.injEq] at hq
    subst hq
    refine ⟨_,_,hrun,plain (flB v) fun j q y hq hy hf=>?_,rfl⟩
    unfold flB at hf
    split at hf
    ·rename_i htg
     simp only [Bool.or_eq_true] at hf
     rcases hf with hgv | hf
     ·right
      rw [htg] at htag
      rw [((hx.good hgv).one hgv).1] at hy
      have:x=y:=by
       cases j with
       | zero=>simpa using hy
       | succ j=>simp at hy
      rw [←this]
      exact htag
     ·exact .inl hf
    ·exact .inl hf
  ·simp at hr
 ·simp at hr
end
end Go.Proofs.YtnpjififnhjbbaaDoor.E
namespace Go.Proofs.YtnpjififnhjbbaaDoor.E
open Go
section
variable {P:Program} {H:ae2} {mo:Nat->Nat->Prop} {acc:Own} {w0:World} {own:Own} {st:St} {a:Act} {w:World}
theorem foldl_set (off:Nat):∀(l:List Value) (s:Nat) (cs:Array Value),off+s+l.length<=cs.size ->
  ((l.zipIdx s).foldl (fun cs (c,j)=>cs.setIfInBounds (off+j) c) cs).size=cs.size /\
  ∀j:Nat,((l.zipIdx s).foldl (fun cs (c,j)=>cs.setIfInBounds (off+j) c) cs)[j]? =if off+s<=j/\j<off+s+l.length then l[j-(off+s)]? else cs[j]?
 | [],s,cs,_=>⟨rfl,fun j=>by
  rw [if_neg (fun hh=>by have h2:=hh.2;have h1:=hh.1;simp only [List.length_nil] at h2;omega)]
  rfl⟩
 | c::r,s,cs,h=>by
  simp only [List.length_cons] at h
  obtain ⟨h1,h2⟩:=foldl_set off r (s+1) (cs.setIfInBounds (off+s) c) (by simp;omega)
  simp only [List.zipIdx_cons,List.foldl_cons]
  refine ⟨by rw [h1];simp,fun j=>?_⟩
  rw [h2 j]
  simp only [List.length_cons]
  by_cases e:j=off+s
  ·subst e
   rw [if_neg (by omega),if_pos (by omega),Array.getElem?_setIfInBounds,if_pos rfl,if_pos (by omega)]
   simp
  ·by_cases e2:off+s+1<=j/\j<off+s+(r.length+1)
   ·rw [if_pos (by omega),if_pos (by omega)]
    rw [show j-(off+s)=(j-(off+(s+1)))+1 by omega]
    simp
   ·rw [if_neg (by omega),if_neg (by omega),Array.getElem?_setIfInBounds,if_neg (by omega)]
def CRel (M:Nat->Nat->Prop)(own:Own)(w:World)(cs:List V)(cs':Array Value):Prop:=
 cs'.size=cs.length/\∀(j:Nat) (x:V) (y:Value),cs[j]? =some x->cs'[j]? =some y->x.good=true/\VRel M own.rho w x y
theorem CRel.ac5 {M:Nat->Nat->Prop}{cs:List V}{cs':Array Value}(h:CRel M own w cs cs'):ac5 cs=true:=by
 refine az6 _ fun v hv=>?_
 obtain ⟨j,hj⟩:=List.getElem?_of_mem hv
 have hlt:j<cs'.size:=by rw [h.1];exact (List.getElem?_eq_some_iff.1 hj).1
 exact (h.2 j v _ hj (Array.getElem?_eq_getElem hlt)).1
theorem bk6 {M:Nat->Nat->Prop}(place place':Nat->Option (Nat×Nat))(hp:∀i p,place i=some p->place' i=some p):∀(parts:List (Nat×V)) (parts':List (Nat×Value)) (cs r:List V) (cs':Array Value),
  parts'.length=parts.length->(∀(j:Nat) (p:Nat×V) (q:Nat×Value),parts[j]? =some p->parts'[j]? =some q->q.1=p.1/\XRel M own w p.2 q.2)->CRel M own w cs cs'->bg0 place cs parts=some r ->
  ∃r',Instr.fill place' cs' parts'=some r'/\CRel M own w r r'
 | [],parts',cs,r,cs',hl,_,hc,hr=>by
  simp [bg0] at hr;subst hr
  cases parts' with
  | nil=>exact ⟨cs',rfl,hc⟩
  | cons _ _=>simp at hl
 | (i,v)::rest,parts',cs,r,cs',hl,hpp,hc,hr=>by
  cases parts' with
  | nil=>simp at hl
  | cons q rest'=>
   obtain ⟨i',x⟩:=q
   obtain ⟨e1,e2⟩:=hpp 0 (i,v) (i',x) rfl rfl
   simp only at e1 e2
   subst e1
   rw [bg0] at hr
   obtain ⟨p,h1,hr⟩:=Option.bind_eq_some_iff.1 hr
   obtain ⟨h2,hr⟩:=aa2 hr
   simp at h2
   obtain ⟨⟨h3,h4⟩,h5⟩:=h2
   obtain ⟨k1,k2⟩:=am5 e2 h5
   obtain ⟨off,size⟩:=p
   simp only at h3 h4 hr
   obtain ⟨z1,z2⟩:=foldl_set off x.cells.toList 0 cs' (by simp;have:=hc.1;omega)
   have hnew:CRel M own w (ae3 cs off v.cells) ((x.cells.toList.zipIdx 0).foldl (fun cs (c,j)=>cs.setIfInBounds (off+j) c) cs'):=by
    refine ⟨by rw [z1,hc.1,av2 _ _ _ (by omega)],fun j p q hp hq=>?_⟩
    rw [z2 j] at hq
    rw [an7 _ _ _ _ (by omega)] at hp
    simp only [Nat.add_zero,Array.length_toList,k1] at hq
    split at hp
    ·rename_i hin
     rw [if_pos hin] at hq
     exact k2 _ _ _ hp (by simpa using hq)
    ·rename_i hin
     rw [if_neg hin] at hq
     exact hc.2 _ _ _ hp hq
   obtain ⟨r',g1,g2⟩:=bk6 place place' hp rest rest' _ r _ (by simpa using hl) (fun j p q hp hq=>hpp (j+1) p q (by simpa using hp) (by simpa using hq)) hnew hr
   refine ⟨r',?_,g2⟩
   rw [Instr.fill,hp _ (off,size) h1]
   simp only
   rw [if_neg (by simp [k1,h3];have:=hc.1;omega)]
   rw [←g1]
   congr 1
   rw [←Array.toList_zipIdx,Array.foldl_toList]
theorem an4 {t:TypeId}{z:V}(h:zeroV P t=some z):∃i x,P.info? t=some i/\i.zero=some x/\z=ofConst x:=by
 unfold zeroV at h
 obtain ⟨x,hx,rfl⟩:=Option.map_eq_some_iff.1 h
 obtain ⟨i,hi,hx⟩:=Option.bind_eq_some_iff.1 hx
 exact ⟨i,x,hi,hx,rfl⟩
theorem XRel.crel {M:Nat->Nat->Prop}{v:V}{x:Value}(h:XRel M own w v x)(hg:E.ac5 v.cells=true):CRel M own w v.cells x.cells:=am5 h hg
theorem mapM_places (l:List Field)(h:(l.all fun f=>(P.info? f.type).isSome)=true):l.mapM (fun f=>(P.info? f.type).map fun i=>(f.offset,i.size))=some (l.map fun f=>(f.offset,P.cellsOf f.type)):=by
 induction l with
 | nil=>rfl
 | cons f r ih=>
  simp only [List.all_cons,Bool.and_eq_true] at h
  obtain ⟨i,hi⟩:=Option.isSome_iff_exists.1 h.1
  simp [List.mapM_cons,hi,ih h.2,Program.cellsOf]
theorem buildV_run (t:TypeId)(parts:List (Nat×V))(parts':Array (Nat×Value))(hl:parts'.size=parts.length)
  (hp:∀(j:Nat) (p:Nat×V) (q:Nat×Value),parts[j]? =some p->parts'.toList[j]? =some q->q.1=p.1/\XRel (Mut mo own) own w p.2 q.2) (v:V) (hv:bm9 P t parts=some v):
  ∃u,(Instr.build t parts').run P w=.ok u w/\VRel (Mut mo own) own.rho w v u:=by
 unfold bm9 at hv
 obtain ⟨z,hz,hq⟩:=Option.bind_eq_some_iff.1 hv
 clear hv
 have hq1:=aa2 hq
 clear hq
 obtain ⟨hg,hq⟩:=hq1
 obtain ⟨i,x,hi,hx,rfl⟩:=an4 hz
 have fin:∀(cs:List V) (cs':Array Value),CRel (Mut mo own) own w cs cs'->P.built t parts'.toList=some cs'->∃u,(Instr.build t parts').run P w=.ok u w/\VRel (Mut mo own) own.rho w (.agg cs) u:=
  fun cs cs' hc hb=>⟨_,run_build w t parts' cs' hb,.agg _ _ hc.1 hc.ac5 fun j x y hx hy=>(hc.2 j x y hx hy).2⟩
 split at hq
 ·rename_i fs hfs
  have hq0:=aa2 hq
  clear hq
  obtain ⟨hall,hq⟩:=hq0
  obtain ⟨cs,hcs,rfl⟩:=Option.map_eq_some_iff.1 hq
  have hpl:=mapM_places (P:=P) fs.toList hall
  obtain ⟨r',h1,h2⟩:=bk6 (M:=Mut mo own) (own:=own) (w:=w) (fun i=>(fs[i]?).map fun f=>(f.offset,P.cellsOf f.type)) ((fs.toList.map fun f=>(f.offset,P.cellsOf f.type)).toArray[·]?) (fun i p hp=>by simpa using hp) parts parts'.toList _ cs x.cells (by simpa using hl) hp ((ag6 _ _ _ x).crel hg) hcs
  exact fin cs r' h2 (by simp only [Program.built,hi,hfs,hx,hpl];exact h1)
 ·rename_i n e hfs
  have hq0:=aa2 hq
  clear hq
  obtain ⟨hall,hq⟩:=hq0
  obtain ⟨ie,hie⟩:=Option.isSome_iff_exists.1 hall
  obtain ⟨cs,hcs,rfl⟩:=Option.map_eq_some_iff.1 hq
  obtain ⟨r',h1,h2⟩:=bk6 (M:=Mut mo own) (own:=own) (w:=w) (fun i=>some (i*P.cellsOf e,P.cellsOf e)) (fun i=>some (i*ie.size,ie.size)) (fun i p hp=>by simpa [Program.cellsOf,hie] using hp) parts parts'.toList _ cs x.cells (by simpa using hl) hp ((ag6 _ _ _ x).crel hg) hcs
  exact fin cs r' h2 (by simp only [Program.built,hi,hfs,hx,hie];exact h1)
 ·simp at hq
def ERel (M:Nat->Nat->Prop)(own:Own)(w:World)(k:Nat)(es:List V)(cs':Array Value):Prop:=
 cs'.size=es.length*k/\(∀e∈es,e.cells.length=k/\ac5 e.cells=true) /\
  ∀(i:Nat) (e:V) (j:Nat) (x:V) (y:Value),es[i]? =some e->e.cells[j]? =some x->cs'[i*k+j]? =some y->VRel M own.rho w x y
theorem ay1 {i k j n:Nat}(hi:i<n)(hj:j<k):i*k+j<n*k:=by
 have:(i+1)*k<=n*k:=Nat.mul_le_mul_right k hi
 rw [Nat.add_mul] at this
 omega
theorem idx_inj {i i' k j j':Nat}(hj:j<k)(hj':j'<k)(h:i*k+j=i'*k+j'):i=i'/\j=j':=by
 have h1:(i*k+j) / k=i:=by rw [Nat.mul_comm,Nat.mul_add_div (by omega),Nat.div_eq_of_lt hj];rfl
 have h2:(i'*k+j') / k=i':=by rw [Nat.mul_comm,Nat.mul_add_div (by omega),Nat.div_eq_of_lt hj'];rfl
 have:i=i':=by rw [←h1,←h2,h]
 subst this
 exact ⟨rfl,by omega⟩
theorem ERel.getD {M:Nat->Nat->Prop}{k:Nat}{es:List V}{cs':Array Value}(h:ERel M own w k es cs'){i:Nat}{e:V}{j:Nat}{x:V}(he:es[i]? =some e)(hx:e.cells[j]? =some x):
  cs'[i*k+j]? =some (cs'.getD (i*k+j) undef)/\VRel M own.rho w x (cs'.getD (i*k+j) undef):=by
 have h1:i<es.length:=(List.getElem?_eq_some_iff.1 he).1
 have h2:j<k:=by rw [←(h.2.1 e (List.mem_of_getElem? he)).1];exact (List.getElem?_eq_some_iff.1 hx).1
 have hlt:i*k+j<cs'.size:=by rw [h.1];exact ay1 h1 h2
 have e1:cs'[i*k+j]? =some (cs'.getD (i*k+j) undef):=by simp [Array.getD_eq_getD_getElem?,hlt]
 exact ⟨e1,h.2.2 i e j x _ he hx e1⟩
theorem ERel.zeros {M:Nat->Nat->Prop}{k n:Nat}{z:V}{x:Value}(h:CRel M own w z.cells x.cells)(hk:z.cells.length=k)(hk0:0<k):ERel M own w k (List.replicate n z) ((Array.range (n*k)).map (x.cells[·%x.cells.size]!)):=by
 refine ⟨by simp,fun e he=>by rw [(List.mem_replicate.1 he).2];exact ⟨hk,h.ac5⟩,fun i e j p y he hp hy=>?_⟩
 obtain ⟨h1,rfl⟩:i<n/\e=z:=by
  rw [List.getElem?_replicate] at he
  split at he<;>simp at he
  exact ⟨by assumption,he.symm⟩
 have hj:j<k:=by rw [←hk];exact (List.getElem?_eq_some_iff.1 hp).1
 have hs:x.cells.size=k:=by rw [h.1,hk]
 have hlt:i*k+j<n*k:=ay1 h1 hj
 simp only [Array.getElem?_map,Array.getElem?_range,hlt,if_true,Option.map_some,Option.some.injEq] at hy
 subst hy
 rw [hs,Nat.mul_comm,Nat.mul_add_mod,Nat.mod_eq_of_lt hj]
 have hjs:j<x.cells.size:=by omega
 have:x.cells[j]! =x.cells[j]:=by simp [hjs]
 rw [this]
 exact (h.2 j p _ hp (Array.getElem?_eq_getElem hjs)).2
theorem aM8 {M:Nat->Nat->Prop}(k:Nat)(hk0:0<k):∀(parts:List (Nat×V)) (parts':List (Nat×Value)) (es r:List V) (cs':Array Value),
  parts'.length=parts.length->(∀(j:Nat) (p:Nat×V) (q:Nat×Value),parts[j]? =some p->parts'[j]? =some q->q.1=p.1/\XRel M own w p.2 q.2)->ERel M own w k es cs'->at5 k es parts=some r ->
  r.length=es.length/\∃r',Instr.fill (fun i=>some (i*k,k)) cs' parts'=some r'/\ERel M own w k r r'
 | [],parts',es,r,cs',hl,_,hc,hr=>by
  simp [at5] at hr;subst hr
  cases parts' with
  | nil=>exact ⟨rfl,cs',rfl,hc⟩
  | cons _ _=>simp at hl
 | (i,v)::rest,parts',es,r,cs',hl,hpp,hc,hr=>by
  cases parts' with
  | nil=>simp at hl
  | cons q rest'=>
   obtain ⟨i',x⟩:=q
   obtain ⟨e1,e2⟩:=hpp 0 (i,v) (i',x) rfl rfl
   simp only at e1 e2
   subst e1
   rw [at5] at hr
   obtain ⟨h2,hr⟩:=aa2 hr
   simp at h2
   obtain ⟨⟨h3,h4⟩,h5⟩:=h2
   obtain ⟨k1,k2⟩:=am5 e2 h5
   have hbd:i'*k+k<=es.length*k:=by
    have:(i'+1)*k<=es.length*k:=Nat.mul_le_mul_right k h3
    rw [Nat.add_mul] at this
    omega
   obtain ⟨z1,z2⟩:=foldl_set (i'*k) x.cells.toList 0 cs' (by simp;have:=hc.1;omega)
   have hnew:ERel M own w k (es.set i' v) ((x.cells.toList.zipIdx 0).foldl (fun cs (c,j)=>cs.setIfInBounds (i'*k+j) c) cs'):=by
    refine ⟨by rw [z1,hc.1];simp,fun e he=>?_,fun i e j p q he hp hq=>?_⟩
    ·rcases List.mem_or_eq_of_mem_set he with q | q
     ·exact hc.2.1 e q
     ·subst q;exact ⟨h4,h5⟩
    ·rw [z2 _] at hq
     simp only [Nat.add_zero,Array.length_toList,k1,h4] at hq
     rw [List.getElem?_set] at he
     by_cases ei:i'=i
     ·subst ei
      rw [if_pos rfl,if_pos h3] at he
      injection he with he
      subst he
      have hj:j<k:=by rw [←h4];exact (List.getElem?_eq_some_iff.1 hp).1
      rw [if_pos (by omega),show i'*k+j-i'*k=j by omega] at hq
      exact (k2 j p q hp (by simpa using hq)).2
     ·rw [if_neg ei] at he
      have hj:j<k:=by rw [←(hc.2.1 e (List.mem_of_getElem? he)).1];exact (List.getElem?_eq_some_iff.1 hp).1
      rw [if_neg (fun hh=>ei ((idx_inj (j:=i*k+j-i'*k) (j':=j) (i:=i') (i':=i) (k:=k) (by omega) hj (by omega)).1))] at hq
      exact hc.2.2 i e j p q he hp hq
   obtain ⟨g0,r',g1,g2⟩:=aM8 k hk0 rest rest' _ r _ (by simpa using hl) (fun j p q hp hq=>hpp (j+1) p q (by simpa using hp) (by simpa using hq)) hnew hr
   refine ⟨by rw [g0];simp,r',?_,g2⟩
   rw [Instr.fill]
   simp only
   rw [if_neg (by simp [k1,h4];have:=hc.1;omega)]
   rw [←g1]
   congr 1
   rw [←Array.toList_zipIdx,Array.foldl_toList]
theorem new_row (h:FR P H mo acc w0 own st a w)(k:Nat)(es:List V)(cs':Array Value)(T:TypeId)(hk:∀e∈es,e.cells.length=k/\ac5 e.cells=true)
  (hr:∀(i:Nat) (e:V) (j:Nat) (x:V),es[i]? =some e->e.cells[j]? =some x->cs'[i*k+j]? =some (cs'.getD (i*k+j) undef)/\VRel (Mut mo own) own.rho w x (cs'.getD (i*k+j) undef)) (n c:Nat) (hn:es.length=n) (hc:n<=c):
  VRel (Mut mo own) own.rho (w.alloc (.cells cs' T)) (.list true k es) (.slice (some ⟨w.heap.size,0,none⟩) n c):=by
 refine .list k es _ 0 c (fun i j=>cs'.getD (i*k+j) undef) _ hn hc (fun e he=>(hk e he).1) (fun e he=>(hk e he).2) ?_ ?_
 ·intro i e j x he hx
  rw [Nat.zero_add,cell_of_heap (heap_alloc_new _),(hr i e j x he hx).1]
  exact ⟨rfl,h.new_free _ _ (Nat.le_refl _)⟩
 ·intro i e j x he hx
  exact (aU6 h _).v (hr i e j x he hx).2
end
end Go.Proofs.YtnpjififnhjbbaaDoor.E
namespace Go.Proofs.YtnpjififnhjbbaaDoor.E
open Go
section
variable {P:Program} {H:ae2} {mo:Nat->Nat->Prop} {acc:Own} {w0:World} {own:Own} {st:St} {a:Act} {w:World}
def noInt (d:TypeDesc):Prop:=(∃e,d=.slice e)∨d=.string
theorem aA3 (t t2 ty e:TypeId)(i:TypeInfo)(d2:TypeDesc)(ht:P.underlying t=some (.slice e))(ht2:P.underlying t2=some d2)(hd:noInt d2)(hi:P.info? e=some i)(A:Option Addr)(n c m:Nat)(x:Value)(nv:Array Value)(w':World)
  (hx:(Builtin.lenOf x).run P w=.ok m w) (hroom:n+m<=c) (hf:(Builtin.firstCells i.size m x).run P w=.ok nv w)
  (hst:match A with | some a=>(storeCells (a.add (n*i.size)) nv.toList).run P w=.ok () w' | none=>w'=w):
  (Builtin.append_ #[t,t2] ty #[.slice A n c,x]).run P w=.ok (.slice A (n+m) c) w':=by
 rcases hd with ⟨e2,rfl⟩ | rfl
 all_goals cases A with
 | none=>
  simp only at hst
  subst hst
  simp [Builtin.append_,run_underlying ht,run_underlying ht2,sizeOf,typeInfo,hi,hx,hroom,hf]
 | some a=>
  simp only at hst
  simp [Builtin.append_,run_underlying ht,run_underlying ht2,sizeOf,typeInfo,hi,hx,hroom,hf,hst]
theorem aT4 (t t2 ty e:TypeId)(i:TypeInfo)(z:Value)(d2:TypeDesc)(ht:P.underlying t=some (.slice e))(ht2:P.underlying t2=some d2)(hd:noInt d2)(hi:P.info? e=some i)(hz0:i.zero=some z)(A:Option Addr)(n c m:Nat)(x:Value)(ov nv:Array Value)
  (hx:(Builtin.lenOf x).run P w=.ok m w) (hroom:¬n+m<=c) (h63:¬(9223372036854775807<((n+m:Nat):Int))) (h48:Builtin.nextslicecap (n+m) c*i.bytes<=281474976710656)
  (ho:(Builtin.firstCells i.size n (.slice A n c)).run P w.drew=.ok ov w.drew) (hf:(Builtin.firstCells i.size m x).run P w.drew=.ok nv w.drew):
  (Builtin.append_ #[t,t2] ty #[.slice A n c,x]).run P w=.ok (.slice (some ⟨w.heap.size,0,none⟩) (n+m) (grownCap w (n+m) c e)) (w.drew.alloc (.cells (ov++nv++Builtin.zeroCells z.cells (grownCap w (n+m) c e-(n+m))) e)):=by
 have h48':¬(281474976710656<Builtin.nextslicecap (n+m) c*i.bytes):=by omega
 have h63':¬(9223372036854775807<((n:Int)+(m:Int))):=by omega
 rcases hd with ⟨e2,rfl⟩ | rfl
 all_goals simp [Builtin.append_,run_underlying ht,run_underlying ht2,sizeOf,typeInfo,zeroValue,hi,hz0,hx,hroom,hf,ho,h63',h48',Question.forced,newRow,grownCap]
theorem Post.drew (h:Base mo own w)(T:Key->Prop):Post mo own w own w.drew T:=
 ⟨⟨rfl,rfl,rfl,Nat.le_refl _,fun _ _ _=>rfl,fun _ _ _ h _=>h⟩,fun b x hx=>.inl hx,fun k r l e=>.inl ⟨k,r,l,e,rfl⟩,fun _ _ h=>h,fun k r hk _=>⟨hk,fun _=>rfl⟩,fun k _ hk=>hk,⟨h.inj,h.gone,h.lt,h.off,h.room⟩⟩
theorem FR.drew (h:FR P H mo acc w0 own st a w):FR P H mo acc w0 own st a w.drew:=
 h.post (Post.drew h.sr.base (fun _=>False)) rfl rfl (Nat.le_refl _) (fun g _ hm=>⟨hm,fun e=>e⟩) h.tokLt h.newTok (fun _ _ e=>e) (fun i box hb=>.inl ⟨hb,fun e=>e⟩) h.newLoc (fun id o ho=>.inl ⟨ho,fun e=>e,fun _ e=>e⟩) h.sr.newObj h.sr.spare
theorem FR.tokNew (h:FR P H mo acc w0 own st a w):FR P H mo acc w0 own {st with g:=st.g+1,l:=st.g::st.l} a w:=
 h.post (Post.id h.sr.base (fun _=>False)) rfl rfl (Nat.le_succ _) (fun g hg hm=>⟨by
  rcases List.mem_cons.1 hm with e | e
  ·omega
  ·exact e,fun e=>e⟩) (fun g hm=>by
  rcases List.mem_cons.1 hm with e | e
  ·simp;omega
  ·have:=h.tokLt g e;simp;omega) (fun g hm=>h.newTok g fun e=>hm (List.mem_cons_of_mem _ e)) (fun _ _ e=>e) (fun i box hb=>.inl ⟨hb,fun e=>e⟩) h.newLoc (fun id o ho=>.inl ⟨ho,fun e=>e,fun _ e=>e⟩) h.sr.newObj h.sr.spare
theorem by3 {k:Key}{b x:Nat}(h:(own.set k none).has b x):own.has b x:=by
 obtain ⟨k',r,e,hr⟩:=h
 by_cases q:k'=k
 ·subst q;rw [Own.ab7] at e;cases e
 ·rw [Own.ab6 _ _ q] at e;exact ⟨_,_,e,hr⟩
theorem aX0 (g:Nat)(r:Option Reg):(own.set (.tok g) r).rho=own.rho:=by
 funext i
 exact bu1 (by simp) (by simp)
theorem FR.bs6 (h:FR P H mo acc w0 own st a w)(g:Nat):FR P H mo acc w0 (own.set (.tok g) none) {st with l:=st.l.filter (· !=g)} a w/\Stay mo own (own.set (.tok g) none) w w:=by
 have p:Post mo own w (own.set (.tok g) none) w (·=.tok g):=
  ⟨Keep.refl _ _,fun b x hx=>.inl (by3 hx),fun k r l e=>.inl (by
   by_cases q:k=.tok g
   ·subst q;rw [Own.ab7] at e;cases e
   ·rw [Own.ab6 _ _ q] at e;exact ⟨k,r,l,e,rfl⟩),fun id b hb=>by rw [aX0];exact hb,fun k r hk hT=>⟨by rw [Own.ab6 _ _ hT];exact hk,fun _=>rfl⟩,fun k hT hk=>by rw [Own.ab6 _ _ hT];exact hk,h.sr.base.erase _⟩
 refine ⟨h.post p rfl rfl (Nat.le_refl _) (fun g2 _ hm=>?_) (fun g2 hm=>?_) (fun g2 hm=>?_) (fun i r e=>by rw [Own.ab6 _ _ (by simp)];exact e) (fun i box hb=>.inl ⟨hb,by simp⟩) (fun i hi=>by rw [Own.ab6 _ _ (by simp)];exact h.newLoc i hi)
  (fun id o ho=>.inl ⟨ho,by simp,by simp⟩) (fun id hi=>at1 (by simp) (by simp) (h.sr.newObj id hi)) (fun id off r e=>by rw [Own.ab6 _ _ (by simp)] at e;exact h.sr.spare id off r e),p.stay⟩
 ·simp at hm;exact ⟨hm.1,by simpa using hm.2⟩
 ·simp at hm;exact h.tokLt g2 hm.1
 ·by_cases q:g2=g
  ·subst q;exact Own.ab7 _ _ _
  ·rw [Own.ab6 _ _ (by simpa using q)]
   refine h.newTok g2 fun e=>hm ?_
   simp;exact ⟨e,q⟩
theorem FR.tokMove (h:FR P H mo acc w0 own st a w)(g:Nat)(hg:g∈st.l):∃own',FR P H mo acc w0 own' {st with g:=st.g+1,l:=st.g::st.l.filter (· !=g)} a w/\own' (.tok st.g)=own (.tok g)/\Stay mo own own' w w:=by
 obtain ⟨h1,s1⟩:=h.bs6 g
 let own1:=own.set (.tok g) none
 let own':=own1.set (.tok st.g) (own (.tok g))
 have hlt:=h.tokLt g hg
 have hb:Base mo own' w:=by
  show Base mo (own1.set (.tok st.g) (own (.tok g))) w
  cases e:own (.tok g) with
  | none=>exact h1.sr.base.erase _
  | some r=>
   refine h1.sr.base.add _ r (fun k' r' hk' l' e' he=>?_) (h.sr.base.lt _ _ e) (fun b x hx=>h.sr.base.off _ _ _ _ e hx) (fun _=>h.sr.base.room _ _ e rfl)
   by_cases q:k'=.tok g
   ·subst q;rw [Own.ab7] at e';cases e'
   ·rw [Own.ab6 _ _ q] at e'
    exact q (h.sr.base.inj _ _ _ _ l' rfl e' e he)
 have hk':∀k,k≠.tok st.g->own' k=own1 k:=fun k q=>Own.ab6 _ _ q
 have hsub:∀b x,own'.has b x->own.has b x:=by
  rintro b x ⟨k,r,e,hr⟩
  by_cases q:k=.tok st.g
  ·subst q;rw [show own' (.tok st.g)=own (.tok g) from Own.ab7 _ _ _] at e;exact ⟨_,_,e,hr⟩
  ·rw [hk' k q] at e;exact by3 ⟨k,r,e,hr⟩
 have hrho:own'.rho=own.rho:=by show (own1.set (.tok st.g) (own (.tok g))).rho=_;rw [aX0];exact aX0 _ _
 have hsubB:∀k r,k.live=true->own' k=some r->(∃k0 r0,k0.live=true/\own k0=some r0/\r0.1=r.1)∨w.heap.size<=r.1:=by
  intro k r l e
  by_cases q:k=.tok st.g
  ·subst q;rw [show own' (.tok st.g)=own (.tok g) from Own.ab7 _ _ _] at e;exact .inl ⟨_,_,rfl,e,rfl⟩
  ·rw [hk' k q] at e
   by_cases q2:k=.tok g
   ·subst q2;rw [show own1 (.tok g)=none from Own.ab7 _ _ _] at e;cases e
   ·rw [show own1 k=own k from Own.ab6 _ _ q2] at e;exact .inl ⟨k,r,l,e,rfl⟩
 have p:Post mo own w own' w (fun k=>k=.tok st.g∨k=.tok g):=
  ⟨Keep.refl _ _,fun b x hx=>.inl (hsub b x hx),hsubB,fun id b hb=>by rw [hrho];exact hb,fun k r hk hT=>⟨by rw [hk' k fun q=>hT (.inl q)];show (own.set (.tok g) none) k=_;rw [Own.ab6 _ _ fun q=>hT (.inr q)];exact hk,fun _=>rfl⟩,
   fun k hT hk=>by rw [hk' k fun q=>hT (.inl q)];show (own.set (.tok g) none) k=_;rw [Own.ab6 _ _ fun q=>hT (.inr q)];exact hk,hb⟩
 have hne:∀k,(∀g2,k≠.tok g2)->own' k=own k:=by
  intro k q
  rw [hk' k (q _)]
  exact Own.ab6 _ _ (q _)
 refine ⟨own',h.post p rfl rfl (Nat.le_succ _) (fun g2 hg2 hm=>?_) (fun g2 hm=>?_) (fun g2 hm=>?_) (fun i r e=>by rw [hne _ (by simp)];exact e) (fun i box hb=>.inl ⟨hb,by simp⟩) (fun i hi=>by rw [hne _ (by simp)];exact h.newLoc i hi)
  (fun id o ho=>.inl ⟨ho,by simp,by simp⟩) (fun id hi=>by rw [hne _ (by simp),hne _ (by simp)];exact h.sr.newObj id hi) (fun id off r e=>by rw [hne _ (by simp)] at e;exact h.sr.spare id off r e),Own.ab7 _ _ _,p.stay⟩
 ·rcases List.mem_cons.1 hm with e | e
  ·omega
  ·simp at e;exact ⟨e.1,by simp;exact ⟨by omega,e.2⟩⟩
 ·rcases List.mem_cons.1 hm with e | e
  ·simp;omega
  ·simp at e;have:=h.tokLt g2 e.1;simp;omega
 ·simp at hm
  rw [hk' _ (by simpa using hm.1)]
  by_cases q:g2=g
  ·subst q;exact Own.ab7 _ _ _
  ·show (own.set (.tok g) none) _=_
   rw [Own.ab6 _ _ (by simpa using q)]
   exact h.newTok g2 fun e=>q (hm.2 e)
end
end Go.Proofs.YtnpjififnhjbbaaDoor.E
namespace Go.Proofs.YtnpjififnhjbbaaDoor.E
open Go
section
variable {P:Program} {H:ae2} {mo:Nat->Nat->Prop} {acc:Own} {w0:World} {own:Own} {st:St} {a:Act} {w:World}
theorem cells_at0 {M:Nat->Nat->Prop}{ρ:Nat->Option (Nat×Nat)}{k n c b o:Nat}{es:List V}(h:VRel M ρ w (.list true k es) (.slice (some ⟨b,o,none⟩) n c))(w2:World)(hw:∀x,w2.cell? ⟨b,x,none⟩=w.cell? ⟨b,x,none⟩)(hk0:0<k):
  ∃nv:Array Value,(loadCells ⟨b,o,none⟩ (es.length*k)).run P w2=.ok nv w2/\nv.size=es.length*k/\(∀(i:Nat) (e:V) (j:Nat) (x:V),es[i]? =some e->e.cells[j]? =some x->nv[i*k+j]? =some (nv.getD (i*k+j) undef)/\VRel M ρ w x (nv.getD (i*k+j) undef)):=by
 cases h with
 | list _ _ _ _ _ f _ hn hc hk hg h1 h2=>
 have hl:=run_loadCells (P:=P) w2 ⟨b,o,none⟩ (es.length*k) (fun p=>f (p / k) (p%k)) (fun p hp=>by
  rw [an1,hw]
  have hi:p / k<es.length:=(Nat.div_lt_iff_lt_mul hk0).2 hp
  have hj:p%k<k:=Nat.mod_lt _ hk0
  have he:=List.getElem?_eq_getElem hi
  have hcl:=hk _ (List.getElem_mem hi)
  have hx:es[p / k].cells[p%k]? =some _:=List.getElem?_eq_getElem (by rw [hcl];exact hj)
  have:=(h1 _ _ _ _ he hx).1
  rw [show o+p=o+p / k*k+p%k by have:=Nat.div_add_mod p k;rw [Nat.mul_comm] at this;omega]
  exact this)
 refine ⟨_,hl,by simp,fun i e j x he hx=>?_⟩
 have hi:i<es.length:=(List.getElem?_eq_some_iff.1 he).1
 have hj:j<k:=by rw [←hk e (List.mem_of_getElem? he)];exact (List.getElem?_eq_some_iff.1 hx).1
 have hlt:i*k+j<es.length*k:=ay1 hi hj
 have e1:(i*k+j) / k=i:=by rw [Nat.mul_comm,Nat.mul_add_div hk0,Nat.div_eq_of_lt hj];rfl
 have e2:(i*k+j)%k=j:=by rw [Nat.mul_comm,Nat.mul_add_mod,Nat.mod_eq_of_lt hj]
 have e3:((List.range (es.length*k)).map fun p=>f (p / k) (p%k)).toArray[i*k+j]? =some (f i j):=by
  simp [List.getElem?_map,List.getElem?_range hlt,e1,e2]
 have e4:((List.range (es.length*k)).map fun p=>f (p / k) (p%k)).toArray.getD (i*k+j) undef=f i j:=by
  rw [Array.getD_eq_getD_getElem?,e3];rfl
 rw [e4]
 exact ⟨e3,h2 i e j x he hx⟩
theorem cells_at {M:Nat->Nat->Prop}{ρ:Nat->Option (Nat×Nat)}{k n c b o:Nat}{sp:Option Nat}{es:List V}(h:VRel M ρ w (.list true k es) (.slice (some ⟨b,o,sp⟩) n c))(w2:World)(hw:∀x,w2.cell? ⟨b,x,none⟩=w.cell? ⟨b,x,none⟩)(hk0:0<k):
  ∃nv:Array Value,(loadCells ⟨b,o,sp⟩ (es.length*k)).run P w2=.ok nv w2/\nv.size=es.length*k/\(∀(i:Nat) (e:V) (j:Nat) (x:V),es[i]? =some e->e.cells[j]? =some x->nv[i*k+j]? =some (nv.getD (i*k+j) undef)/\VRel M ρ w x (nv.getD (i*k+j) undef)):=by
 cases sp with
 | none=>exact cells_at0 h w2 hw hk0
 | some q=>
  cases h with
  | list _ _ _ _ _ f _ hn hc hk hg h1 h2 _ hsp=>
   obtain rfl:c=0:=by rcases hsp with h | h;cases h;exact h
   obtain rfl:es=[]:=List.length_eq_zero_iff.1 (by omega)
   exact ⟨#[],by simp [loadCells,loadCellsFrom],by simp,fun i e j x he=>by simp at he⟩
theorem src_run {M:Nat->Nat->Prop}{K:Nat}(hK:0<K)(x:V)(xs:List V)(hs:srcOf K x=some xs)(x':Value)(hx:XRel M own w x x'):
  (Builtin.lenOf x').run P w=.ok xs.length w/\(∀e∈xs,e.cells.length=K/\ac5 e.cells=true)/\∀w2:World,w2.heap=w.heap ->
   ∃nv:Array Value,(Builtin.firstCells K xs.length x').run P w2=.ok nv w2/\nv.size=xs.length*K/\(∀(i:Nat) (e:V) (j:Nat) (x:V),xs[i]? =some e->e.cells[j]? =some x->nv[i*K+j]? =some (nv.getD (i*K+j) undef)/\VRel M own.rho w x (nv.getD (i*K+j) undef)):=by
 unfold srcOf at hs
 split at hs
 ·rename_i nn k2 es
  obtain ⟨h1,h2⟩:=aa2 hs
  simp only [Option.some.injEq] at h2
  subst h2
  cases hx with
  | nillist=>exact ⟨rfl,by simp,fun w2 _=>⟨#[],rfl,by simp,fun i e j x he=>by simp at he⟩⟩
  | list _ _ b o c f n hn hc hk hg g1 g2 sp hsp=>
   subst hn
   by_cases e:es=[]
   ·subst e
    exact ⟨rfl,by simp,fun w2 _=>⟨#[],by simp [Builtin.firstCells,loadCells,loadCellsFrom],by simp,fun i e j x he=>by simp at he⟩⟩
   ·have hkk:k2=K:=by
     cases es with
     | nil=>exact absurd rfl e
     | cons _ _=>simpa using h1
    subst hkk
    refine ⟨rfl,fun e he=>⟨hk e he,hg e he⟩,fun w2 hw=>?_⟩
    exact cells_at (.list k2 es b o c f _ rfl hc hk hg g1 g2 sp hsp) w2 (fun x=>by simp only [World.cell?,hw]) hK
 ·rename_i s
  obtain ⟨h1,h2⟩:=aa2 hs
  simp only [Option.some.injEq] at h2
  subst h2
  have hK1:K=1:=by simpa using h1
  subst hK1
  cases hx
  refine ⟨by simp [Builtin.lenOf],fun e he=>?_,fun w2 _=>⟨(s.data.map fun b=>Value.int .u8 b.toNat),?_,by simp,fun i e j x he hx=>?_⟩⟩
  ·obtain ⟨c,_,rfl⟩:=List.mem_map.1 he
   exact ⟨rfl,rfl⟩
  ·have hex:s.extract 0 (s.data.toList.map fun c:UInt8=>V.int .u8 c.toNat).length=s:=by
    simp only [List.length_map,Array.length_toList]
    show s.extract 0 s.size=s
    simp
   simp only [Builtin.firstCells,hex]
   rfl
  ·rw [List.getElem?_map] at he
   obtain ⟨c,hc,rfl⟩:=Option.map_eq_some_iff.1 he
   cases j with
   | succ j=>simp [V.cells] at hx
   | zero=>
    simp [V.cells] at hx
    subst hx
    have e1:(s.data.map fun b=>Value.int .u8 b.toNat)[i*1+0]? =some (.int .u8 c.toNat):=by
     simp only [Nat.mul_one,Nat.add_zero,Array.getElem?_map]
     rw [show s.data[i]? =some c by simpa using hc]
     rfl
    have e2:(s.data.map fun b=>Value.int .u8 b.toNat).getD (i*1+0) undef=.int .u8 c.toNat:=by
     rw [Array.getD_eq_getD_getElem?,e1];rfl
    rw [e2]
    exact ⟨e1,.int _ _⟩
 ·simp at hs
theorem rel_append {M:Nat->Nat->Prop}{ρ:Nat->Option (Nat×Nat)}{k n c c' b o:Nat}{es xs:List V}(h:VRel M ρ w (.list true k es) (.slice (some ⟨b,o,none⟩) n c))(hc:n+xs.length<=c')(hk:∀e∈xs,e.cells.length=k/\ac5 e.cells=true)
  (g:Nat->Nat->Value) (hx:∀(i:Nat) (e:V) (j:Nat) (x:V),xs[i]? =some e->e.cells[j]? =some x->w.cell? ⟨b,o+(n+i)*k+j,none⟩=some (g i j)/\¬M b (o+(n+i)*k+j)/\VRel M ρ w x (g i j)):
  VRel M ρ w (.list true k (es++xs)) (.slice (some ⟨b,o,none⟩) (n+xs.length) c'):=by
 cases h with
 | list _ _ _ _ _ f _ hn _ hk1 hg h1 h2 _ _=>
 refine .list k _ b o c' (fun i j=>if i<n then f i j else g (i-n) j) _ (by simp [hn]) hc (fun e he=>?_) (fun e he=>?_) (fun i e j x he hx2=>?_) (fun i e j x he hx2=>?_)
 ·rcases List.mem_append.1 he with q | q
  ·exact hk1 e q
  ·exact (hk e q).1
 ·rcases List.mem_append.1 he with q | q
  ·exact hg e q
  ·exact (hk e q).2
 ·by_cases hi:i<n
  ·rw [List.getElem?_append_left (by omega)] at he
   simp only [hi,if_true]
   exact h1 i e j x he hx2
  ·rw [List.getElem?_append_right (by omega),hn] at he
   simp only [hi,if_false]
   obtain ⟨q1,q2,_⟩:=hx (i-n) e j x he hx2
   rw [show n+(i-n)=i by omega] at q1 q2
   exact ⟨q1,q2⟩
 ·by_cases hi:i<n
  ·rw [List.getElem?_append_left (by omega)] at he
   simp only [hi,if_true]
   exact h2 i e j x he hx2
  ·rw [List.getElem?_append_right (by omega),hn] at he
   simp only [hi,if_false]
   exact (hx (i-n) e j x he hx2).2.2
theorem aU8 {M:Nat->Nat->Prop}{ρ:Nat->Option (Nat×Nat)}{K:Nat}(hK:0<K){xs:List V}{nv:Array Value}(hs:nv.size=xs.length*K)(hk:∀e∈xs,e.cells.length=K/\ac5 e.cells=true)
  (h:∀(i:Nat) (e:V) (j:Nat) (x:V),xs[i]? =some e->e.cells[j]? =some x->nv[i*K+j]? =some (nv.getD (i*K+j) undef)/\VRel M ρ w x (nv.getD (i*K+j) undef)):∀v∈nv.toList,v.oneCell'=true:=by
 intro v hv
 obtain ⟨p,hp⟩:=List.getElem?_of_mem hv
 have hlt:p<xs.length*K:=by have:=(List.getElem?_eq_some_iff.1 hp).1;simpa [hs] using this
 have hi:p / K<xs.length:=(Nat.div_lt_iff_lt_mul hK).2 hlt
 have hj:p%K<K:=Nat.mod_lt _ hK
 have he:=List.getElem?_eq_getElem hi
 obtain ⟨c1,c2⟩:=hk _ (List.getElem_mem hi)
 have hx:xs[p / K].cells[p%K]? =some _:=List.getElem?_eq_getElem (by rw [c1];exact hj)
 obtain ⟨q1,q2⟩:=h _ _ _ _ he hx
 have hpe:p / K*K+p%K=p:=by have:=Nat.div_add_mod p K;rw [Nat.mul_comm] at this;omega
 rw [hpe] at q1 q2
 have:v=nv.getD p undef:=by
  have:nv[p]? =some v:=by simpa using hp
  rw [this] at q1;injection q1
 rw [this]
 exact (q2.one (ap9 _ _ _ c2 hx)).2
theorem FR.newRow (h:FR P H mo acc w0 own st a w)(k:Nat)(es:List V)(cs':Array Value)(T:TypeId)(hk:∀e∈es,e.cells.length=k/\ac5 e.cells=true)
  (hr:∀(i:Nat) (e:V) (j:Nat) (x:V),es[i]? =some e->e.cells[j]? =some x->cs'[i*k+j]? =some (cs'.getD (i*k+j) undef)/\VRel (Mut mo own) own.rho w x (cs'.getD (i*k+j) undef)) (n c:Nat) (hn:es.length=n) (hc:n<=c) (hs:c*k<=cs'.size):
  ∃own',FR P H mo acc w0 own' {st with g:=st.g+1,l:=st.g::st.l} a (w.alloc (.cells cs' T))/\VRel (Mut mo own') own'.rho (w.alloc (.cells cs' T)) (.list true k es) (.slice (some ⟨w.heap.size,0,none⟩) n c) /\
   TRel own' (st.g::st.l) (st.g+1) (.list true k es) (.tok st.g) (.slice (some ⟨w.heap.size,0,none⟩) n c):=by
 have hmo:∀b x,mo b x->b<w.heap.size:=fun b x hm=>Nat.lt_of_lt_of_le (h.mlt b x hm) h.keep.size
 have hk0:own (.tok st.g)=none:=h.newTok _ fun hm=>absurd (h.tokLt _ hm) (by omega)
 have hnk:n*k<=c*k:=Nat.mul_le_mul_right k hc
 have p:=Post.aE1 (mo:=mo) h.sr.base hmo (.cells cs' T) (.tok st.g) hk0 (n*k) (c*k) (fun _=>⟨hnk,cs',T,heap_alloc_new _,hs⟩) (fun id e=>by cases e)
 let own':=own.set (.tok st.g) (some (w.heap.size,n*k,c*k))
 have hne:∀k2,k2≠.tok st.g->own' k2=own k2:=fun k2 q=>Own.ab6 _ _ q
 refine ⟨own',h.post p rfl rfl (Nat.le_succ _) (fun g hg hm=>?_) (fun g hm=>?_) (fun g hm=>?_) (fun i r e=>by rw [hne _ (by simp)];exact e) (fun i box hb=>.inl ⟨hb,by simp⟩) (fun i hi=>by rw [hne _ (by simp)];exact h.newLoc i hi)
  (fun id o ho=>.inl ⟨ho,by simp,by simp⟩) (fun id hi=>by rw [hne _ (by simp)];exact h.sr.newObj id hi) (fun id off r e=>by rw [hne _ (by simp)] at e;exact h.sr.spare id off r e),?_,⟨by omega,fun _ k2 es2 b2 o2 n2 c2 hv hx=>?_⟩⟩
 ·rcases List.mem_cons.1 hm with e | e
  ·omega
  ·exact ⟨e,by simp;omega⟩
 ·rcases List.mem_cons.1 hm with e | e
  ·simp;omega
  ·have:=h.tokLt g e;simp;omega
 ·simp at hm
  rw [hne _ (by simpa using hm.1)]
  exact h.newTok g hm.2
 ·refine .list k es _ 0 c (fun i j=>cs'.getD (i*k+j) undef) _ hn hc (fun e he=>(hk e he).1) (fun e he=>(hk e he).2) ?_ ?_
  ·intro i e j x he hx
   rw [Nat.zero_add,cell_of_heap (heap_alloc_new _),(hr i e j x he hx).1]
   refine ⟨rfl,?_⟩
   have hi:i<n:=by rw [←hn];exact (List.getElem?_eq_some_iff.1 he).1
   have hj:j<k:=by rw [←(hk e (List.mem_of_getElem? he)).1];exact (List.getElem?_eq_some_iff.1 hx).1
   have hlt:=ay1 hi hj
   rintro (hm | ⟨k2,r,e2,hr2⟩)
   ·have:=hmo _ _ hm;omega
   ·by_cases q:k2=.tok st.g
    ·subst q
     rw [show own' (.tok st.g)=_ from Own.ab7 _ _ _] at e2
     injection e2 with e2
     subst e2
     have:=hr2.2.1
     simp only at this
     omega
    ·rw [hne k2 q] at e2
     have:=h.sr.base.lt k2 r e2
     have:=hr2.1
     omega
  ·intro i e j x he hx
   exact p.stay.v (hr i e j x he hx).2
 ·injection hv with e1 e2 e3
  subst e2
  injection hx with f1 f2 f3
  injection f1 with f1
  injection f1 with f1 f4
  subst f1;subst f4;subst f2;subst f3
  right
  rw [show own' (.tok st.g)=_ from Own.ab7 _ _ _]
  simp
end
end Go.Proofs.YtnpjififnhjbbaaDoor.E
namespace Go.Proofs.YtnpjififnhjbbaaDoor.E
open Go
section
variable {P:Program} {H:ae2} {mo:Nat->Nat->Prop} {acc:Own} {w0:World} {own:Own} {st:St} {a:Act} {w:World}
theorem FR.fill (h:FR P H mo acc w0 own st a w){g b o n c K m:Nat}(hg:g∈st.l)(hreg:own (.tok g)=some (b,o+n*K,o+c*K))(hm:n+m<=c){es xs:List V}(hlist:VRel (Mut mo own) own.rho w (.list true K es) (.slice (some ⟨b,o,none⟩) n c))(hxl:xs.length=m)
  (hk:∀e∈xs,e.cells.length=K/\ac5 e.cells=true) {cs cs':Array Value} {T:TypeId} (hheap:w.heap[b]? =some (.cells cs T (0,0))) (hs:cs'.size=cs.size)
  (hout:∀x,(o+n*K<=x/\x<o+(n+m)*K)∨cs'[x]? =cs[x]?)
  (hin:∀(i:Nat) (e:V) (j:Nat) (x:V),xs[i]? =some e->e.cells[j]? =some x->∃y,cs'[o+(n+i)*K+j]? =some y/\VRel (Mut mo own) own.rho w x y):
  ∃own',FR P H mo acc w0 own' {st with g:=st.g+1,l:=st.g::st.l.filter (· !=g)} a (w.setRow b cs')/\VRel (Mut mo own') own'.rho (w.setRow b cs') (.list true K (es++xs)) (.slice (some ⟨b,o,none⟩) (n+m) c) /\
   own' (.tok st.g)=some (b,o+(n+m)*K,o+c*K):=by
 have hle1:n*K<=(n+m)*K:=Nat.mul_le_mul_right K (by omega)
 have hle2:(n+m)*K<=c*K:=Nat.mul_le_mul_right K hm
 have hlt:=h.tokLt g hg
 obtain ⟨hr1,csx,Tx,hr2,hr3⟩:=h.sr.base.room _ _ hreg rfl
 rw [hheap] at hr2
 injection hr2 with hr2
 injection hr2 with e1 e2 e3
 subst e1;subst e2
 simp only at hr3
 let own1:=own.set (.tok g) none
 let own':=own1.set (.tok st.g) (some (b,o+(n+m)*K,o+c*K))
 have hne1:∀k r,own1 k=some r->own k=some r/\k≠.tok g:=by
  intro k r e
  by_cases q:k=.tok g
  ·subst q;rw [show own1 (.tok g)=none from Own.ab7 _ _ _] at e;cases e
  ·rw [show own1 k=own k from Own.ab6 _ _ q] at e;exact ⟨e,q⟩
 have hb:Base mo own' w:=(h.sr.base.erase (.tok g)).add _ _ (fun k' r' hk' l' e' he=>by
   obtain ⟨z1,z2⟩:=hne1 _ _ e'
   exact z2 (h.sr.base.inj _ _ _ _ l' rfl z1 hreg he)) (show b<w.heap.size from h.sr.base.lt _ _ hreg) (fun b2 x hx=>h.sr.base.off _ _ _ _ hreg ⟨hx.1,by have:=hx.2.1;simp only at this ⊢;omega,hx.2.2⟩) (fun _=>⟨by simp only;omega,cs,T,hheap,hr3⟩)
 have hne:∀k,(∀g2,k≠.tok g2)->own' k=own k:=by
  intro k q
  show own1.set (.tok st.g) _ k=_
  rw [Own.ab6 _ _ (q _)]
  exact Own.ab6 _ _ (q _)
 have hrho:own'.rho=own.rho:=by show (own1.set (.tok st.g) _).rho=_;rw [aX0];exact aX0 _ _
 have p:=Post.row (mo:=mo) (T':=fun k=>k=.tok st.g∨k=.tok g) h.sr.base hreg hheap hs (fun x=>(hout x).imp (fun hx=>⟨hx.1,by simp only;omega⟩) (fun e=>e)) own' (fun b2 x ⟨k,r,e,hr⟩=>by
   by_cases q:k=.tok st.g
   ·subst q
    rw [show own' (.tok st.g)=_ from Own.ab7 _ _ _] at e
    injection e with e
    subst e
    exact ⟨_,_,hreg,hr.1,by have:=hr.2.1;simp only at this ⊢;omega,hr.2.2⟩
   ·rw [show own' k=own1 k from Own.ab6 _ _ q] at e
    exact ⟨k,r,(hne1 _ _ e).1,hr⟩) (fun k r l e=>by
   by_cases q:k=.tok st.g
   ·subst q
    rw [show own' (.tok st.g)=_ from Own.ab7 _ _ _] at e
    injection e with e
    subst e
    exact ⟨_,_,rfl,hreg,rfl⟩
   ·rw [show own' k=own1 k from Own.ab6 _ _ q] at e
    exact ⟨k,r,l,(hne1 _ _ e).1,rfl⟩) (.inr rfl) (fun k hk=>by
   show own1.set (.tok st.g) _ k=_
   rw [Own.ab6 _ _ fun q=>hk (.inl q)]
   exact Own.ab6 _ _ fun q=>hk (.inr q)) hb hrho
 refine ⟨own',h.post p rfl rfl (Nat.le_succ _) (fun g2 hg2 hm=>?_) (fun g2 hm=>?_) (fun g2 hm=>?_) (fun i r e=>by rw [hne _ (by simp)];exact e) (fun i box hb=>.inl ⟨hb,by simp⟩) (fun i hi=>by rw [hne _ (by simp)];exact h.newLoc i hi)
  (fun id o ho=>.inl ⟨ho,by simp,by simp⟩) (fun id hi=>by rw [hne _ (by simp),hne _ (by simp)];exact h.sr.newObj id hi) (fun id off r e=>by rw [hne _ (by simp)] at e;exact h.sr.spare id off r e),?_,Own.ab7 _ _ _⟩
 ·rcases List.mem_cons.1 hm with e | e
  ·omega
  ·simp at e;exact ⟨e.1,by simp;exact ⟨by omega,e.2⟩⟩
 ·rcases List.mem_cons.1 hm with e | e
  ·simp;omega
  ·simp at e;have:=h.tokLt g2 e.1;simp;omega
 ·simp at hm
  rw [show own' (.tok g2)=own1 (.tok g2) from Own.ab6 _ _ (by simpa using hm.1)]
  by_cases q:g2=g
  ·subst q;exact Own.ab7 _ _ _
  ·rw [show own1 (.tok g2)=own (.tok g2) from Own.ab6 _ _ (by simpa using q)]
   exact h.newTok g2 fun e=>q (hm.2 e)
 ·have:=p.stay.v hlist
  subst hxl
  refine rel_append this hm hk (fun i j=>cs'.getD (o+(n+i)*K+j) undef) fun i e j x he hx=>?_
  obtain ⟨y,hy1,hy2⟩:=hin i e j x he hx
  have hyd:cs'.getD (o+(n+i)*K+j) undef=y:=by rw [Array.getD_eq_getD_getElem?,hy1];rfl
  have hi:i<xs.length:=(List.getElem?_eq_some_iff.1 he).1
  have hj:j<K:=by rw [←(hk e (List.mem_of_getElem? he)).1];exact (List.getElem?_eq_some_iff.1 hx).1
  have hlt2:(n+i)*K+j<(n+xs.length)*K:=ay1 (by omega) hj
  have hge:n*K<=(n+i)*K:=Nat.mul_le_mul_right K (by omega)
  show (w.setRow b cs').cell? _=_/\_
  rw [cell_setRow_same w b _ cs cs' T (0,0) hheap,hy1,hyd]
  refine ⟨rfl,?_,p.stay.v hy2⟩
  rintro (hm2 | ⟨k2,r,e2,hr⟩)
  ·exact h.sr.base.off _ _ _ _ hreg ⟨rfl,by simp only;omega,by simp only;omega⟩ hm2
  ·by_cases q:k2=.tok st.g
   ·subst q
    rw [show own' (.tok st.g)=_ from Own.ab7 _ _ _] at e2
    injection e2 with e2
    subst e2
    have:=hr.2.1
    simp only at this
    omega
   ·rw [show own' k2=own1 k2 from Own.ab6 _ _ q] at e2
    obtain ⟨z1,z2⟩:=hne1 _ _ e2
    exact z2 (h.sr.base.inj _ _ _ _ (h.sr.base.bx5 z1 hr) rfl z1 hreg hr.1)
theorem appendV_run (h:FR P H mo acc w0 own st a w)(t t2 ty e:TypeId)(d2:TypeDesc)(ht:P.underlying t=some (.slice e))(ht2:P.underlying t2=some d2)(hd:noInt d2)(s:V×Tag)(x:V)(s' x':Value)(hs:XRel (Mut mo own) own w s.1 s')(htag:TRel own st.l st.g s.1 s.2 s')
  (hx:XRel (Mut mo own) own w x x') (r:V×Tag) (st':St) (hr:ax4 P e s x st=some (r,st')):
  ∃u w' own',(Builtin.append_ #[t,t2] ty #[s',x']).run P w=.ok u w'/\FR P H mo acc w0 own' st' a w'/\XRel (Mut mo own') own' w' r.1 u/\TRel own' st'.l st'.g r.1 r.2 u/\st'.t=st.t:=by
 unfold ax4 at hr
 split at hr
 ·rename_i nn k es hse
  rw [hse] at hs htag
  obtain ⟨xs,hxs,hq⟩:=Option.bind_eq_some_iff.1 hr
  clear hr
  have q1:=aa2 hq
  clear hq
  obtain ⟨hk,hq⟩:=q1
  have q1:=aa2 hq
  clear hq
  obtain ⟨hK,hq⟩:=q1
  obtain ⟨z,hz,hq1⟩:=Option.bind_eq_some_iff.1 hq
  clear hq
  have q1:=aa2 hq1
  clear hq1
  obtain ⟨hzk,hq⟩:=q1
  simp at hk hK hzk
  obtain ⟨i,zv,hi,hiz,rfl⟩:=an4 hz
  have hzs:zv.cells.size=P.cellsOf e:=by rw [←hzk.1];exact (am5 (ag6 (Mut mo own) own w zv) hzk.2).1
  have hsize:i.size=P.cellsOf e:=by simp [Program.cellsOf,hi]
  have hbytes:i.bytes=P.bytesOf e:=by simp [Program.bytesOf,hi]
  generalize hKe:P.cellsOf e=K at *
  obtain ⟨l1,l2,l3⟩:=src_run (P:=P) (own:=own) (w:=w) (M:=Mut mo own) hK x xs hxs x' hx
  split at hq
  ·rename_i hbd
   obtain ⟨A,n,c,rfl,hn,hc⟩:∃A n c,s'=.slice A n c/\n=es.length/\n<=c:=by
    cases hs with
    | nillist=>exact ⟨_,_,_,rfl,rfl,Nat.le_refl _⟩
    | list _ _ b o c f n hn hc=>exact ⟨_,_,_,rfl,hn.symm,hc⟩
   by_cases hfit:n+xs.length<=c
   ·obtain ⟨nv,f1,f2,f3⟩:=l3 w rfl
    by_cases hm:xs=[]
    ·subst hm
     have hnv:nv= #[]:=by
      have:nv.size=0:=by simpa using f2
      exact Array.size_eq_zero_iff.1 this
     subst hnv
     have hrun:=aA3 t t2 ty e i d2 ht ht2 hd hi A n c 0 x' #[] w l1 hfit (by rw [hsize];exact f1) (by cases A<;>rfl)
     simp only [Nat.add_zero] at hrun
     have hres:VRel (Mut mo own) own.rho w (.list (nn||!([]:List V).isEmpty) K (es++([]:List V))) (.slice A n c):=by
      simp only [List.isEmpty_nil,Bool.not_true,Bool.or_false,List.append_nil]
      cases hs with
      | nillist=>exact .nillist K
      | list _ _ b o c f n hn hc hkk hg g1 g2 sp hsp=>
       have:k=K:=by simpa using hk
       subst this
       exact .list k es b o c f n hn hc hkk hg g1 g2 sp hsp
     split at hq
     ·rename_i tg htg
      split at hq
      ·rename_i hgl
       simp only [fresh,Option.some.injEq] at hq
       injection hq with e1 e2
       subst e1;subst e2
       have hgl2:tg∈st.l:=by simpa using hgl
       obtain ⟨own',q1,q2,q3⟩:=h.tokMove tg hgl2
       refine ⟨_,_,own',hrun,q1,XRel.of (q3.v hres),⟨by simp,fun _ k2 es2 b2 o2 n2 c2 hv hx2=>?_⟩,rfl⟩
       simp only [List.isEmpty_nil,Bool.not_true,Bool.or_false,List.append_nil] at hv
       injection hv with v1 v2 v3
       subst v1;subst v2
       rw [htg] at htag
       have hkk:k=K:=by simpa using hk
       rw [hkk] at htag
       rcases htag.2 hgl2 _ _ _ _ _ _ rfl hx2 with q | q
       ·exact .inl q
       ·right;rw [←q];exact q2
      ·simp at hq
     ·rename_i htg
      simp only [fresh,Option.some.injEq] at hq
      injection hq with e1 e2
      subst e1;subst e2
      rw [htg] at htag
      refine ⟨_,_,own,hrun,h.tokNew,XRel.of hres,⟨by simp,fun _ k2 es2 b2 o2 n2 c2 hv hx2=>.inl (htag _ _ _ hx2)⟩,rfl⟩
     ·rename_i htg
      cases nn with
      | true=>simp at hq
      | false=>
       simp only [cond_false,fresh,Option.some.injEq] at hq
       injection hq with e1 e2
       subst e1;subst e2
       refine ⟨_,_,own,hrun,h.tokNew,XRel.of (by simpa using hres),⟨by simp,fun _ k2 es2 b2 o2 n2 c2 hv hx2=>?_⟩,rfl⟩
       simp at hv
    ·
     have hm0:0<xs.length:=by
      cases xs with
      | nil=>exact absurd rfl hm
      | cons _ _=>simp
     have hcn:c≠n:=by omega
     have hemp:xs.isEmpty=false:=by cases xs with | nil=>exact absurd rfl hm | cons _ _=>rfl
     split at hq
     ·rename_i tg htg
      split at hq
      ·rename_i hgl
       simp only [fresh,Option.some.injEq] at hq
       injection hq with e1 e2
       subst e1;subst e2
       have hgl2:tg∈st.l:=by simpa using hgl
       cases hs with
       | nillist=>omega
       | list _ _ b o c f n hnn hcc hkk hg g1 g2 sp hsp0=>
       obtain rfl:sp=none:=by rcases hsp0 with h | h;exact h;omega
       have hkK:k=K:=by simpa using hk
       subst hkK
       rw [htg] at htag
       have hreg:=(htag.2 hgl2 _ _ _ _ _ _ rfl rfl).resolve_left hcn
       obtain ⟨hr1,cs,T,hheap,hr3⟩:=h.sr.base.room _ _ hreg rfl
       simp only at hheap hr3
       have hle:(n+xs.length)*k<=c*k:=Nat.mul_le_mul_right k hfit
       have hadd:(n+xs.length)*k=n*k+xs.length*k:=Nat.add_mul _ _ _
       have hone:=aU8 hK f2 l2 f3
       have hst:=run_storeCells_at P b (o+n*k) T nv.toList 0 cs w hheap (by simp [f2];omega) hone
       have hsp:=fun j=>ap6 cs nv.toList (o+n*k) j (by simp [f2];omega)
       have hrun:=aA3 t t2 ty e i d2 ht ht2 hd hi (some ⟨b,o,none⟩) n c xs.length x' nv _ l1 hfit (by rw [hsize];exact f1) (by rw [hsize];show (storeCells ((⟨b,o,none⟩:Addr).add (n*k)) nv.toList).run P w=_;rw [an1];exact hst)
       generalize hnew:(cs.toList.take (o+n*k+0)++nv.toList++cs.toList.drop (o+n*k+0+nv.toList.length)).toArray=cs' at hrun hsp
       have hs':cs'.size=cs.size:=by rw [←hnew];simp [f2];omega
       obtain ⟨own',p1,p2,p3⟩:=h.fill hgl2 hreg hfit (.list k es b o c f n hnn hcc hkk hg g1 g2) rfl l2 hheap hs' (fun x=>by
        rw [hsp x]
        split
        ·rename_i hh;left;simp [f2] at hh;omega
        ·exact .inr rfl) (fun i2 e2 j x2 he hx2=>by
        obtain ⟨y1,y2⟩:=f3 i2 e2 j x2 he hx2
        have hi2:i2<xs.length:=(List.getElem?_eq_some_iff.1 he).1
        have hj:j<k:=by rw [←(l2 e2 (List.mem_of_getElem? he)).1];exact (List.getElem?_eq_some_iff.1 hx2).1
        have hlt:=ay1 hi2 hj
        have hexp:(n+i2)*k=n*k+i2*k:=Nat.add_mul _ _ _
        refine ⟨_,?_,y2⟩
        rw [hsp,if_pos (by simp [f2];omega),show o+(n+i2)*k+j-(o+n*k)=i2*k+j by omega]
        simpa using y1)
       refine ⟨_,_,own',hrun,p1,XRel.of (by simpa [hemp] using p2),⟨by simp,fun _ k2 es2 b2 o2 n2 c2 hv hx2=>?_⟩,rfl⟩
       injection hv with v1 v2 v3
       injection hx2 with z1 z2 z3
       injection z1 with z1
       injection z1 with z1 z4
       subst v2;subst z1;subst z4;subst z2;subst z3
       exact .inr p3
      ·simp at hq
     ·rename_i htg
      rw [htg] at htag
      exact absurd (htag _ _ _ rfl) hcn
     ·cases nn with
      | true=>simp at hq
      | false=>cases hs;omega
   ·
    have hemp:xs.isEmpty=false:=by
     cases xs with
     | nil=>simp at hfit;omega
     | cons _ _=>rfl
    have h63:¬(9223372036854775807<((n+xs.length:Nat):Int)):=by omega
    have h48:=growslice_fits (need:=n+xs.length) (old:=c) (bytes:=i.bytes) (by omega) (by rw [hbytes,hn];exact hbd.1)
    obtain ⟨nv,f1,f2,f3⟩:=l3 w.drew rfl
    obtain ⟨ov,o1,o2,o3,o4⟩:∃ov:Array Value,(Builtin.firstCells K n (.slice A n c)).run P w.drew=.ok ov w.drew/\ov.size=es.length*K/\(∀e∈es,e.cells.length=K/\ac5 e.cells=true) /\
      (∀(i:Nat) (e:V) (j:Nat) (x:V),es[i]? =some e->e.cells[j]? =some x->ov[i*K+j]? =some (ov.getD (i*K+j) undef)/\VRel (Mut mo own) own.rho w x (ov.getD (i*K+j) undef)):=by
     cases hs with
     | nillist=>exact ⟨#[],rfl,by simp,by simp,fun i e j x he=>by simp at he⟩
     | list _ _ b o c f n hnn hcc hkk hg g1 g2 sp hsp=>
      have hkK:k=K:=by simpa using hk
      subst hkK
      obtain ⟨ov,z1,z2,z3⟩:=cells_at (P:=P) (.list k es b o c f n hnn hcc hkk hg g1 g2 sp hsp) w.drew (fun _=>rfl) hK
      exact ⟨ov,by rw [hn];exact z1,z2,fun e he=>⟨hkk e he,hg e he⟩,z3⟩
    have hrun:=aT4 t t2 ty e i zv d2 ht ht2 hd hi hiz A n c xs.length x' ov nv l1 hfit h63 h48 (by rw [hsize];exact o1) (by rw [hsize];exact f1)
    have hcap:n+xs.length<=grownCap w (n+xs.length) c e:=by
     simp only [grownCap,Question.cut];omega
    generalize grownCap w (n+xs.length) c e=cap at hrun hcap
    have hsz:cap*K<=(ov++nv++Builtin.zeroCells zv.cells (cap-(n+xs.length))).size:=by
     rw [Array.size_append,Array.size_append,size_zeroCells,hzs,o2,f2,←hn,←Nat.add_mul,←Nat.add_mul]
     exact Nat.mul_le_mul_right K (by omega)
    have hrows:∀(i:Nat) (e:V) (j:Nat) (x:V),(es++xs)[i]? =some e->e.cells[j]? =some x->(ov++nv++Builtin.zeroCells zv.cells (cap-(n+xs.length)))[i*K+j]? =some ((ov++nv++Builtin.zeroCells zv.cells (cap-(n+xs.length))).getD (i*K+j) undef) /\
      VRel (Mut mo own) own.rho w x ((ov++nv++Builtin.zeroCells zv.cells (cap-(n+xs.length))).getD (i*K+j) undef):=by
     intro i e j x he hx
     by_cases hi:i<es.length
     ·rw [List.getElem?_append_left hi] at he
      obtain ⟨y1,y2⟩:=o4 i e j x he hx
      have hj:j<K:=by rw [←(o3 e (List.mem_of_getElem? he)).1];exact (List.getElem?_eq_some_iff.1 hx).1
      have hlt:=ay1 hi hj
      have e1:(ov++nv++Builtin.zeroCells zv.cells (cap-(n+xs.length)))[i*K+j]? =some (ov.getD (i*K+j) undef):=by
       rw [Array.getElem?_append_left (by simp;omega),Array.getElem?_append_left (by omega)];exact y1
      rw [Array.getD_eq_getD_getElem?,e1]
      exact ⟨rfl,y2⟩
     ·rw [List.getElem?_append_right (by omega)] at he
      obtain ⟨y1,y2⟩:=f3 (i-es.length) e j x he hx
      have hi2:i-es.length<xs.length:=(List.getElem?_eq_some_iff.1 he).1
      have hj:j<K:=by rw [←(l2 e (List.mem_of_getElem? he)).1];exact (List.getElem?_eq_some_iff.1 hx).1
      have hlt:=ay1 hi2 hj
      have hexp:i*K=es.length*K+(i-es.length)*K:=by rw [←Nat.add_mul];congr 1;omega
      have e1:(ov++nv++Builtin.zeroCells zv.cells (cap-(n+xs.length)))[i*K+j]? =some (nv.getD ((i-es.length)*K+j) undef):=by
       rw [Array.getElem?_append_left (by simp;omega),Array.getElem?_append_right (by omega),show i*K+j-ov.size=(i-es.length)*K+j by omega];exact y1
      rw [Array.getD_eq_getD_getElem?,e1]
      exact ⟨rfl,y2⟩
    have hall:∀e∈es++xs,e.cells.length=K/\ac5 e.cells=true:=fun e he=>(List.mem_append.1 he).elim (o3 e) (l2 e)
    have hlen:(es++xs).length=n+xs.length:=by simp [hn]
    have plain:∃own',FR P H mo acc w0 own' {st with g:=st.g+1,l:=st.g::st.l} a (w.drew.alloc (.cells (ov++nv++Builtin.zeroCells zv.cells (cap-(n+xs.length))) e))/\VRel (Mut mo own') own'.rho (w.drew.alloc (.cells (ov++nv++Builtin.zeroCells zv.cells (cap-(n+xs.length))) e)) (.list true K (es++xs)) (.slice (some ⟨w.heap.size,0,none⟩) (n+xs.length) cap) /\
      TRel own' (st.g::st.l) (st.g+1) (.list true K (es++xs)) (.tok st.g) (.slice (some ⟨w.heap.size,0,none⟩) (n+xs.length) cap):=
     h.drew.newRow K (es++xs) _ e hall (fun i e j x he hx=>⟨(hrows i e j x he hx).1,(Post.drew h.sr.base (fun _=>False)).stay.v (hrows i e j x he hx).2⟩) (n+xs.length) cap hlen hcap hsz
    split at hq
    ·rename_i tg htg
     split at hq
     ·simp only [fresh,Option.some.injEq] at hq
      injection hq with e1 e2
      subst e1;subst e2
      obtain ⟨d1,d2⟩:=h.bs6 tg
      obtain ⟨own',p1,p2,p3⟩:=d1.drew.newRow K (es++xs) _ e hall (fun i e j x he hx=>⟨(hrows i e j x he hx).1,(Post.drew d1.sr.base (fun _=>False)).stay.v (d2.v (hrows i e j x he hx).2)⟩) (n+xs.length) cap hlen hcap hsz
      exact ⟨_,_,own',hrun,p1,XRel.of (by simpa [hemp] using p2),by simpa [hemp] using p3,rfl⟩
     ·simp at hq
    ·simp only [fresh,Option.some.injEq] at hq
     injection hq with e1 e2
     subst e1;subst e2
     obtain ⟨own',p1,p2,p3⟩:=plain
     exact ⟨_,_,own',hrun,p1,XRel.of (by simpa [hemp] using p2),by simpa [hemp] using p3,rfl⟩
    ·cases nn with
     | true=>simp at hq
     | false=>
      simp only [cond_false,fresh,Option.some.injEq] at hq
      injection hq with e1 e2
      subst e1;subst e2
      obtain ⟨own',p1,p2,p3⟩:=plain
      exact ⟨_,_,own',hrun,p1,XRel.of (by simpa [hemp] using p2),by simpa [hemp] using p3,rfl⟩
  ·simp at hq
 ·simp at hr
end
end Go.Proofs.YtnpjififnhjbbaaDoor.E
