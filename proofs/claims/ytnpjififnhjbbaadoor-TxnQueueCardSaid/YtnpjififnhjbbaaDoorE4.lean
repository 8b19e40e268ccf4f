/- It is proved of regions and of code, those that draw their order too, that the machine does what the evaluator does. No condition beyond the lemmas' own. -/
import Derived.Test.YtnpjififnhjbbaaDoorE3
import Derived.CallsIn
import Derived.LoopNIn
import Derived.OrdersIn
import Derived.RangeFuncIn
namespace Go.Proofs.YtnpjififnhjbbaaDoor.E
open Go
structure HOk (P:Program)(H:ae2):Prop where
 mixed:P.follows .mixedOrders=true
 ext:∀g e,H.ext g=some e->∀args v,e args=some v->∀(M:Nat->Nat->Prop) (ρ:Nat->Option (Nat×Nat)) (w:World) (args':Array Value),args'.size=args.length->(∀(j:Nat) (v:V) (x:Value),args[j]? =some v->args'[j]? =some x->VRel M ρ w v x) ->
  ∃x,(callFunc g args').run P w=.ok (.value x) w/\VRel M ρ w v x
 ok:∀g,H.ok g=true->∀args w,(callFunc g args).run P w=.ok (.enter g args) w
 fn:∀g,H.ok g=true->g<P.funcs.size
 glob:∀g cs,H.glob g=some cs->ac0 cs=true
 meth:∀t m g,H.meth t m=some g->∀v w,(method (P.types.size+Made.depth) t v m).run P w=.ok (g,v) w
section
variable {P:Program} {H:ae2} {mo:Nat->Nat->Prop} {acc:Own} {w0:World} {own:Own} {st:St} {a:Act} {w:World}
def aB3 (M:Nat->Nat->Prop)(own:Own)(w:World)(vs:List V)(xs:Array Value):Prop:=
 xs.size=vs.length/\∀(j:Nat) (v:V) (x:Value),vs[j]? =some v->xs[j]? =some x->XRel M own w v x
theorem aB3.append {M:Nat->Nat->Prop}{vs ws:List V}{xs ys:Array Value}(h1:aB3 M own w vs xs)(h2:aB3 M own w ws ys):aB3 M own w (vs++ws) (xs++ys):=by
 refine ⟨by simp [h1.1,h2.1],fun j v x hv hx=>?_⟩
 by_cases hj:j<vs.length
 ·rw [List.getElem?_append_left hj] at hv
  rw [Array.getElem?_append_left (by rw [h1.1];exact hj)] at hx
  exact h1.2 j v x hv hx
 ·rw [List.getElem?_append_right (by omega)] at hv
  rw [Array.getElem?_append_right (by rw [h1.1];omega),h1.1] at hx
  exact h2.2 _ v x hv hx
theorem aB3.args {M:Nat->Nat->Prop}{vs:List V}{xs:Array Value}(h:aB3 M own w vs xs)(hv:vs.all ad2=true):Args M own.rho w vs xs:=by
 refine ⟨h.1,fun j v x e1 e2=>?_⟩
 have:=List.all_eq_true.1 hv v (List.mem_of_getElem? e1)
 refine (h.2 j v x e1 e2).to ?_ ?_
 ·rintro rfl;simp [ad2] at this
 ·rintro i o rfl;simp [ad2] at this
theorem bk7 (h:FR P H mo acc w0 own st a w)(l:Array Operand):aB3 (Mut mo own) own w (evs H st l.toList) (l.map a.eval):=by
 refine ⟨by simp [evs],fun j v x hv hx=>?_⟩
 obtain ⟨o,ho,rfl⟩:=bz1 _ _ _ hv
 rw [Array.getElem?_map,show l[j]? =some o by simpa using ho] at hx
 simp at hx
 subst hx
 exact (h.ev o).1
theorem cons_args {M:Nat->Nat->Prop}{v:V}{x:Value}{vs:List V}{xs:Array Value}(h1:XRel M own w v x)(h2:aB3 M own w vs xs):aB3 M own w (v::vs) (#[x]++xs):=by
 have:aB3 M own w [v] #[x]:=⟨rfl,fun j p q hp hq=>by
  cases j with
  | zero=>simp at hp hq;subst hp;subst hq;exact h1
  | succ j=>simp at hp⟩
 exact this.append h2
theorem callee_run (hH:HOk P H)(h:FR P H mo acc w0 own st a w)(c:Call)(g:FuncId)(args:List V)(hc:ag3 H st c=some (g,args))(ty:TypeId):
  ∃args' dfd,(resolve a.eval c ty).run P w=.ok dfd w/\(invoke dfd.target dfd.args).run P w=(callFunc g args').run P w/\aB3 (Mut mo own) own w args args':=by
 unfold ag3 at hc
 have hargs:=bk7 h c.args
 simp only at hc
 split at hc
 ·rename_i f hf
  have hfv:=(h.ev f).1
  split at hc
  ·rename_i g' first cap e
   simp only [Option.some.injEq] at hc
   injection hc with e1 e2
   subst e1;subst e2
   rw [e] at hfv
   generalize hz:a.eval f=z at hfv
   cases hfv with
   | func _ _ _ first' cap' hx hy h1 h2=>
   have x1:aB3 (Mut mo own) own w first first':=⟨hx,fun j v x e1 e2=>XRel.of (h1 j v x e1 e2)⟩
   have x2:aB3 (Mut mo own) own w cap cap':=⟨hy,fun j v x e1 e2=>XRel.of (h2 j v x e1 e2)⟩
   refine ⟨first'++c.args.map a.eval++cap',{target:=.fn (.func g') cap',args:=first'++c.args.map a.eval},?_,?_,(x1.append hargs).append x2⟩
   ·unfold resolve
    rw [hf]
    simp only [hz]
    rfl
   ·rfl
  ·simp at hc
 ·rename_i r m hf
  have hrv:=(h.ev r).1
  split at hc
  ·rename_i t v e
   obtain ⟨g',hg,e5⟩:=Option.map_eq_some_iff.1 hc
   injection e5 with e1 e2
   subst e1;subst e2
   rw [e] at hrv
   generalize hz:a.eval r=z at hrv
   cases hrv with
   | iface _ _ v' hv=>
   refine ⟨#[v']++c.args.map a.eval,{target:=.fn (.method m) #[],args:=#[.iface t v']++c.args.map a.eval},?_,?_,cons_args (XRel.of hv) hargs⟩
   ·unfold resolve
    rw [hf]
    simp only [hz]
    rfl
   ·have hex:(#[Value.iface t v']++c.args.map a.eval).extract 1 (#[Value.iface t v']++c.args.map a.eval).size=c.args.map a.eval:=by
     apply Array.ext_getElem?
     intro j
     rw [Array.getElem?_extract]
     by_cases hj:j<(c.args.map a.eval).size
     ·rw [if_pos (by simp at hj ⊢;omega),Array.getElem?_append_right (by simp)]
      congr 1
      simp
     ·rw [if_neg (by simp at hj ⊢;omega),Array.getElem?_eq_none (by omega)]
    simp only [invoke]
    rw [hex]
    have h0:(#[Value.iface t v']++c.args.map a.eval)[0]? =some (.iface t v'):=by
     rw [Array.getElem?_append_left (by simp)];rfl
    rw [h0]
    simp only [callMethod]
    refine (ab3 (w1:=w) (r:=P) rfl).trans ?_
    exact (ab3 (hH.meth t m g' hg v' w)).trans rfl
  ·simp at hc
 ·simp at hc
end
end Go.Proofs.YtnpjififnhjbbaaDoor.E
namespace Go.Proofs.YtnpjififnhjbbaaDoor.E
open Go
section
variable {P:Program} {H:ae2} {mo:Nat->Nat->Prop} {acc:Own} {w0:World} {own:Own} {st:St} {a:Act} {w:World}
theorem aE0 (h:FR P H mo acc w0 own st a w)(f:FuncId)(dst:Option Nat)(v:V)(tag:Tag)(x:Value)(hv:XRel (Mut mo own) own w v x)(ht:TRel own st.l st.g v tag x)(K:St->Option Out)(out:Out)(hk:goOn H f dst (v,tag) K st=some out):
  ∃st',FR P H mo acc w0 own st' (a.put dst x) w/\K st'=some out:=by
 unfold goOn at hk
 obtain ⟨v',hn,hk⟩:=Option.bind_eq_some_iff.1 hk
 exact ⟨_,h.put dst v' tag x (norm_x hn hv) (norm_t hn ht),hk⟩
theorem callV_run (hH:HOk P H){rec:Rec}(hrec:aH8 P H rec)(h:FR P H mo acc w0 own st a w)(f:FuncId)(g:FuncId)(hgs:g<P.funcs.size)(args:List V)(dst:Option Nat)(K:St->Option Out)(KP:Cont)(out:Out)(hc:aA2 H rec f g args dst st K KP=some out)(args':Array Value)
  (hx:aB3 (Mut mo own) own w args args') (next:Act->World->Prop) (Q:Exit->Act->World->Prop)
  (hn:∀(st':St) (own':Own) (a':Act) (w':World),FR P H mo acc w0 own' st' a' w'->K st'=some out->next a' w')
  (hq:∀(st':St) (own':Own) (v:V) (x:Value) (w':World),FR P H mo acc w0 own' st' a w'->VRel (Mut mo own') own'.rho w' v x->KP (.pan v) st'=some out->Q (.panic [{v:=x,recovered:=false}]) a w'):
  Calls P g args' w fun
   | .returned v,w''=>next (a.put dst v) w''
   | .panicked chain,w''=>Q (.panic chain) a w''
   | .outgrown,_=>LetsOut Q:=by
 unfold aA2 at hc
 obtain ⟨hall,hc⟩:=aa2 hc
 have hargs:=hx.args hall
 cases hp:H.pure g with
 | false=>
  rw [hp] at hc
  simp only [cond_false] at hc
  obtain ⟨out0,ho,hc⟩:=Option.bind_eq_some_iff.1 hc
  obtain ⟨c1,c2,c3,c4⟩:=h.callee
  have hargs2:Args (Mut (moIn mo own) own.sh) own.sh.rho w args args':=⟨hargs.1,fun j v x e1 e2=>(hargs.2 j v x e1 e2).keep (fun b x v hc hm=>⟨hc,by rw [aG3];exact hm⟩) (fun id b e=>e)⟩
  refine (hrec.fn g hgs args st.s out0 ho (moIn mo own) own.sh w args' c1 c2 c3 hargs2 c4).mono ?_
  intro e w' hpost
  cases out0 with
  | pan v s'=>
   obtain ⟨own',x,rfl,p,hv,h0⟩:=hpost
   obtain ⟨f1,f2⟩:=h.after p false (fun _=>h0)
   exact hq _ _ v x w' f1 (f2 hv) hc
  | ret vs s'=>
   obtain ⟨own',v',rfl,p,hv,h0,h1⟩:=hpost
   obtain ⟨f1,f2⟩:=h.after p (ay5 H g vs) h0
   cases hh:ay5 H g vs with
   | false=>
    rw [hh] at f1
    have hc2:goOn H f dst (one vs,.no) K {st with s:=s'}=some out:=by
     simp only at hc
     rw [show ((H.own g).headD false&&vs.length==1)=false from hh] at hc
     exact hc
    obtain ⟨st2,q1,q2⟩:=aE0 f1 f dst (one vs) .no v' (XRel.of (f2 hv)) trivial K out hc2
    exact hn _ _ _ _ q1 q2
   | true=>
    rw [hh] at f1
    have hc2:goOn H f dst (one vs,.tok st.g) K {st with s:=s',g:=st.g+1,l:=st.g::st.l}=some out:=by
     simp only at hc
     rw [show ((H.own g).headD false&&vs.length==1)=true from hh] at hc
     exact hc
    obtain ⟨st2,q1,q2⟩:=aE0 f1 f dst (one vs) (.tok st.g) v' (XRel.of (f2 hv)) ⟨Nat.lt_succ_self _,fun _ k es b o n c e1 e2=>by
     rw [show own'.join own st.g (.tok st.g)=own' (.tok 0) from if_pos rfl]
     exact h1 hh k es b o n c e1 e2⟩ K out hc2
    exact hn _ _ _ _ q1 q2
 | true=>
  rw [hp] at hc
  simp only [cond_true] at hc
  obtain ⟨hno,hc⟩:=aa2 hc
  obtain ⟨out0,ho,hc⟩:=Option.bind_eq_some_iff.1 hc
  have hm0:∀b x,Mut mo own b x->b<w.heap.size:=by
   rintro b x (hm | ⟨k,r,e,hr⟩)
   ·exact Nat.lt_of_lt_of_le (h.mlt b x hm) h.keep.size
   ·have:=h.sr.base.lt k r e;have:=hr.1;omega
  have c1:SR P (Mut mo own) (fun _=>none) [] w:=⟨⟨fun _ _ _ _ _ _ e=>(by cases e),fun _ _ e=>(by cases e),fun _ _ e=>(by cases e),fun _ _ _ _ e=>(by cases e),fun _ _ e=>(by cases e)⟩,fun id o e=>(by simp at e),fun _ _=>⟨rfl,rfl⟩,fun _ _ _ e=>(by cases e)⟩
  have hmm:∀b x,Mut (Mut mo own) (fun _=>none) b x↔Mut mo own b x:=fun b x=>⟨fun q=>q.elim (fun e=>e) (fun ⟨k,r,e,_⟩=>(by cases e)),fun q=>.inl q⟩
  have hcut:∀{v:V} {x:Value},aj2 v=true->VRel (Mut mo own) own.rho w v x->VRel (Mut (Mut mo own) (fun _=>none)) (Own.rho fun _=>none) w v x:=fun hv hr=>bw0 (hr.keep (fun b x v hc hm=>⟨hc,by rw [hmm];exact hm⟩) (fun id b e=>e)) hv
  have hargs2:Args (Mut (Mut mo own) (fun _=>none)) (Own.rho fun _=>none) w args args':=⟨hargs.1,fun j v x e1 e2=>hcut (an9 _ _ _ hno e1) (hargs.2 j v x e1 e2)⟩
  have c4:Glob H (Mut (Mut mo own) (fun _=>none)) (Own.rho fun _=>none) w:=by
   intro gl cs e
   obtain ⟨f,q1,q2,q3⟩:=h.glob gl cs e
   exact ⟨f,q1,fun j x hx=>⟨(q2 j x hx).1,by rw [hmm];exact (q2 j x hx).2⟩,fun j x hx=>hcut (an9 _ _ _ (hH.glob gl cs e) hx) (q3 j x hx)⟩
  refine (hrec.fn g hgs args [] out0 ho (Mut mo own) (fun _=>none) w args' c1 (fun _ _=>rfl) hm0 hargs2 c4).mono ?_
  intro e w' hpost
  cases out0 with
  | pan v s'=>
   obtain ⟨own',x,rfl,p,hv,h0⟩:=hpost
   obtain ⟨hnv,hc⟩:=aa2 hc
   obtain ⟨f1,f2⟩:=h.bB4 p false (fun _=>h0)
   exact hq _ _ v x w' f1 (f2 hnv hv) hc
  | ret vs s'=>
   obtain ⟨own',v',rfl,p,hv,h0,h1⟩:=hpost
   obtain ⟨hnv,hc⟩:=aa2 hc
   have hnv1:aj2 (one vs)=true:=by
    unfold one
    split
    ·simpa [ac0] using hnv
    ·simpa [aj2] using hnv
   obtain ⟨f1,f2⟩:=h.bB4 p (ay5 H g vs) h0
   cases hh:ay5 H g vs with
   | false=>
    rw [hh] at f1
    have hc2:goOn H f dst (one vs,.no) K st=some out:=by
     rw [show ((H.own g).headD false&&vs.length==1)=false from hh] at hc
     exact hc
    obtain ⟨st2,q1,q2⟩:=aE0 f1 f dst (one vs) .no v' (XRel.of (f2 hnv1 hv)) trivial K out hc2
    exact hn _ _ _ _ q1 q2
   | true=>
    rw [hh] at f1
    have hc2:goOn H f dst (one vs,.tok st.g) K {st with g:=st.g+1,l:=st.g::st.l}=some out:=by
     rw [show ((H.own g).headD false&&vs.length==1)=true from hh] at hc
     exact hc
    obtain ⟨st2,q1,q2⟩:=aE0 f1 f dst (one vs) (.tok st.g) v' (XRel.of (f2 hnv1 hv)) ⟨Nat.lt_succ_self _,fun _ k es b o n c e1 e2=>by
     rw [show own.set (.tok st.g) (own' (.tok 0)) (.tok st.g)=own' (.tok 0) from Own.ab7 _ _ _]
     exact h1 hh k es b o n c e1 e2⟩ K out hc2
    exact hn _ _ _ _ q1 q2
end
end Go.Proofs.YtnpjififnhjbbaaDoor.E
namespace Go.Proofs.YtnpjififnhjbbaaDoor.E
open Go
def QK (P:Program)(H:ae2)(mo:Nat->Nat->Prop)(acc:Own)(w0:World)(K:Cont)(out:Out):Exit->Act->World->Prop
 | .normal,a,w=>∃st own,FR P H mo acc w0 own st a w/\K .normal st=some out
 | .exit id,a,w=>∃st own,FR P H mo acc w0 own st a w/\K (.exit id) st=some out
 | .ret,a,w=>∃st own,FR P H mo acc w0 own st a w/\K .ret st=some out
 | .panic ch,a,w=>∃st own v x,ch=[{v:=x,recovered:=false}]/\FR P H mo acc w0 own st a w/\VRel (Mut mo own) own.rho w v x/\K (.pan v) st=some out
 | _,_,_=>False
def FW :Option Nat->Fence
 | none=>Fence.wide
 | some l=>Fence.wide.inRound l
theorem br9 (ro:Option Nat)(f:FuncId):(FW ro).fn f:=by cases ro<;>trivial
theorem bp0 (ro:Option Nat):(FW ro).depth=none:=by cases ro<;>rfl
theorem FW_calls {ro:Option Nat}{n:Nat}{P:Program}{f:FuncId}{args:Array Value}{w:World}{R:Ending->World->Prop}(h:Calls P f args w R):CallsIn (FW ro) n P f args w R:=by
 cases ro with
 | none=>exact callsIn_wide.2 h
 | some l=>exact (callsIn_wide (n:=n)).2 h
section
variable {P:Program} {H:ae2} {mo:Nat->Nat->Prop} {acc:Own} {w0:World} {own:Own} {st:St} {a:Act} {w:World}
theorem av6 {ro:Option Nat}{o:Oper}{next:Act->World->Prop}{Q:Exit->Act->World->Prop}{r:Result Next}(hnd:∀c,o.op≠.defer c)(hr:(execOp a.eval o).run P w=r)(h:o.uponIn (FW ro) 0 P a next Q r):o.wpIn (FW ro) 0 P a w next Q:=by
 refine ⟨fun f _=>br9 ro f,?_⟩
 rw [Oper.semAt_eq _ _ _ hnd,hr]
 exact h
theorem FW_round_of {ro:Option Nat}{l:Nat}{f:FuncId}{tm:Array Value}{ca cb:Code}{R:Ending->World->Prop}(h:RoundIn Fence.wide 0 P l f tm ca cb w R):RoundIn (FW ro) (0-1) P l f tm ca cb w R:=by
 cases ro with
 | none=>exact h
 | some l'=>exact h
theorem yieldV_run {rec:Rec}(hrec:aH8 P H rec)(ro:Option Nat)(h:FR P H mo acc w0 own st a w)(f:FuncId)(o:Oper)(c:Call)(hop:o.op=.call c)(id:Nat)(hy:av1 H st c=some id)(K:St->Option Out)(out:Out)
  (hk:aQ1 P H rec f id (evs H st c.args.toList) o.dst st K=some out) (next:Act->World->Prop) (Q:Exit->Act->World->Prop)
  (hn:∀(st':St) (own':Own) (a':Act) (w':World),FR P H mo acc w0 own' st' a' w'->K st'=some out->next a' w'):o.wpIn (FW ro) 0 P a w next Q:=by
 unfold aQ1 at hk
 obtain ⟨hall,hk⟩:=aa2 hk
 obtain ⟨out0,ho,hk⟩:=Option.bind_eq_some_iff.1 hk
 have hargs:=(bk7 h c.args).args hall
 unfold av1 at hy
 split at hy
 ·rename_i fo hfo
  have hfv:=(h.ev fo).1
  split at hy
  ·rename_i id' e
   simp only [Option.some.injEq] at hy
   subst hy
   rw [e] at hfv
   generalize hz:a.eval fo=z at hfv
   cases hfv with
   | yld _ b hb=>
   obtain ⟨c1,c2,c3,c4⟩:=h.callee
   have hargs2:Args (Mut (moIn mo own) own.sh) own.sh.rho w (evs H st c.args.toList) (c.args.map a.eval):=⟨hargs.1,fun j v x e1 e2=>(hargs.2 j v x e1 e2).keep (fun b x v hc hm=>⟨hc,by rw [aG3];exact hm⟩) (fun id b e=>e)⟩
   obtain ⟨g,tm,ca,cb,hrun,hround⟩:=hrec.yld id' (evs H st c.args.toList) st.s out0 ho (moIn mo own) own.sh w _ b _ c1 c2 c3 hargs2 c4 (by rw [Own.sh_rho];exact hb)
   have hexec:(execOp a.eval o).run P w=.ok (.round b g tm ca cb) w:=by
    unfold execOp
    rw [hop]
    refine (ab3 (w1:=w) (r:=({target:=.fn (.yield b) #[],args:=#[]++c.args.map a.eval}:Deferred)) ?_).trans ?_
    ·unfold resolve
     rw [hfo]
     simp only [hz]
     rfl
    ·show (Instr.yield b (#[]++c.args.map a.eval)).run P w=_
     rw [Array.empty_append]
     exact hrun
   refine av6 (by rw [hop];simp) hexec ⟨fun hd=>?_,FW_round_of (hround.mono fun e' w' hp=>?_)⟩
   ·rw [bp0] at hd;cases hd
   ·cases out0 with
    | pan v s'=>exact hp.elim
    | ret vs s'=>
     obtain ⟨own',v',rfl,p,hv,h0⟩:=hp
     obtain ⟨f1,f2⟩:=h.after p false (fun _=>h0)
     obtain ⟨st2,q1,q2⟩:=aE0 f1 f o.dst (one vs) .no v' (XRel.of (f2 hv)) trivial K out hk
     exact hn _ _ _ _ q1 q2
  ·cases hy
 ·cases hy
theorem step_run (hH:HOk P H){rec:Rec}(hrec:aH8 P H rec)(ro:Option Nat)(h:FR P H mo acc w0 own st a w)(f:FuncId)(o:Oper)(K:St->Option Out)(KP:Cont)(out:Out)(hs:step P H rec ro.isSome f o K KP st=some out)(next:Act->World->Prop)
  (hn:∀(st':St) (own':Own) (a':Act) (w':World),FR P H mo acc w0 own' st' a' w'->K st'=some out->next a' w'):o.wpIn (FW ro) 0 P a w next (QK P H mo acc w0 KP out):=by
 have hq:∀(st':St) (own':Own) (v:V) (x:Value) (w':World),FR P H mo acc w0 own' st' a w'->VRel (Mut mo own') own'.rho w' v x->KP (.pan v) st'=some out->QK P H mo acc w0 KP out (.panic [{v:=x,recovered:=false}]) a w':=
  fun st' own' v x w' h1 h2 h3=>⟨st',own',v,x,rfl,h1,h2,h3⟩
 have plain:(∀c,o.op≠.defer c)->(opV P H f (o.dst.getD 0) o.op st).bind (fun r=>goOn H f o.dst r.1 K r.2)=some out->o.wpIn (FW ro) 0 P a w next (QK P H mo acc w0 KP out):=by
  intro hnd hs2
  obtain ⟨r,hr,hk⟩:=Option.bind_eq_some_iff.1 hs2
  obtain ⟨x,w',own',h1,h2,h3,h4,h5⟩:=opV_run h f (o.dst.getD 0) o r.1 r.2 hr
  obtain ⟨st2,q1,q2⟩:=aE0 h2 f o.dst r.1.1 r.1.2 x h3 h4 K out hk
  have hnx:=hn _ _ _ _ q1 q2
  rcases h1 with h1 | ⟨h1,rfl⟩
  ·exact av6 hnd h1 hnx
  ·exact av6 hnd h1 hnx
 cases hop:o.op with
 | call c=>
  unfold step at hs
  rw [hop] at hs
  simp only at hs
  split at hs
  ·rename_i b hb
   exact plain (by rw [hop];simp) (by rw [hop];exact hs)
  split at hs
  ·rename_i id hid
   exact yieldV_run hrec ro h f o c hop id hid K out hs next _ hn
  ·obtain ⟨g,hg,hk⟩:=Option.bind_eq_some_iff.1 hs
   obtain ⟨args',dfd,h1,h2,h3⟩:=callee_run hH h c g.1 g.2 hg o.type
   have hexec:(execOp a.eval o).run P w=(callFunc g.1 args').run P w:=by
    unfold execOp
    rw [hop]
    exact (ab3 h1).trans h2
   split at hk
   ·rename_i e he
    obtain ⟨hall,hk⟩:=aa2 hk
    obtain ⟨v,hv,hk⟩:=Option.bind_eq_some_iff.1 hk
    have ha:=h3.args hall
    obtain ⟨x,x1,x2⟩:=hH.ext g.1 e he g.2 v hv _ _ w args' ha.1 ha.2
    rw [x1] at hexec
    obtain ⟨st2,q1,q2⟩:=aE0 h f o.dst v .no x (XRel.of x2) trivial K out hk
    exact av6 (by rw [hop];simp) hexec (hn _ _ _ _ q1 q2)
   ·obtain ⟨hok,hk⟩:=aa2 hk
    rw [hH.ok g.1 hok] at hexec
    refine av6 (by rw [hop];simp) hexec ⟨fun hd=>?_,FW_calls (callV_run hH hrec h f g.1 (hH.fn g.1 hok) g.2 o.dst K KP _ hk args' h3 next _ hn hq)⟩
    rw [bp0] at hd;cases hd
 | defer c=>
  unfold step at hs
  rw [hop] at hs
  simp only at hs
  have hck:=aa2 hs
  clear hs
  obtain ⟨hval,hs⟩:=hck
  rw [Bool.and_eq_true] at hval
  obtain ⟨hro,hval⟩:=hval
  have hro:ro=none:=by cases ro with | none=>rfl | some l=>simp at hro
  subst hro
  obtain ⟨g,hg,hk⟩:=Option.bind_eq_some_iff.1 hs
  obtain ⟨hok,hk⟩:=aa2 hk
  rw [Bool.and_eq_true] at hok
  split at hval
  ·rename_i fo hfo
   unfold ag3 at hg
   rw [hfo] at hg
   simp only at hg
   have hfv:=(h.ev fo).1
   have hargs:=bk7 h c.args
   split at hg
   ·rename_i g' first cap e
    simp only [Option.some.injEq] at hg
    subst hg
    rw [e] at hfv
    generalize hz:a.eval fo=z at hfv
    cases hfv with
    | func _ _ _ first' cap' hx hy h1 h2=>
    have x1:aB3 (Mut mo own) own w first first':=⟨hx,fun j v x e1 e2=>XRel.of (h1 j v x e1 e2)⟩
    have x2:aB3 (Mut mo own) own w cap cap':=⟨hy,fun j v x e1 e2=>XRel.of (h2 j v x e1 e2)⟩
    have xa:=((x1.append hargs).append x2).args hok.2
    have hexec:(execOp a.eval o).run P w=.ok (.defer {target:=.fn (.func g') cap',args:=first'++c.args.map a.eval}) w:=by
     unfold execOp
     rw [hop]
     refine (ab3 (w1:=w) (r:=({target:=.fn (.func g') cap',args:=first'++c.args.map a.eval}:Deferred)) ?_).trans rfl
     unfold resolve
     rw [hfo]
     simp only [hz]
     rfl
    refine ⟨fun f _=>br9 _ f,?_⟩
    rw [show (FW none).round=none from rfl,Oper.semAt_none,hexec]
    have hd:FR P H mo acc w0 own {st with d:=(g',first++evs H st c.args.toList++cap)::st.d} {a with defers:={target:=.fn (.func g') cap',args:=first'++c.args.map a.eval}::a.defers} w:={h with
     dsize:=by simp [h.dsize]
     dfr:=fun i d d' e1 e2=>by
      cases i with
      | zero=>
       simp only [List.getElem?_cons_zero,Option.some.injEq] at e1 e2
       subst e1;subst e2
       exact .inr ⟨cap',rfl,xa.1,fun j v x e1 e2=>xa.2 j v x e1 e2⟩
      | succ i=>exact h.dfr i d d' (by simpa using e1) (by simpa using e2)
     marks:=fun i j d d' r e1 e2 t1 t2=>by
      cases i with
      | zero=>simp only [List.getElem?_cons_zero,Option.some.injEq] at e1;subst e1;cases t1
      | succ i=>cases j with
       | zero=>simp only [List.getElem?_cons_zero,Option.some.injEq] at e2;subst e2;cases t2
       | succ j=>rw [h.marks i j d d' r (by simpa using e1) (by simpa using e2) t1 t2]}
    exact hn _ _ _ _ (hd.put o.dst .undef .no undef trivial trivial) hk
   ·simp at hg
  ·cases hval
 | panic x=>
  unfold step at hs
  rw [hop] at hs
  simp only at hs
  split at hs
  ·rename_i t v e
   have hx:=(h.ev x).1
   rw [e] at hx
   generalize hz:a.eval x=z at hx
   cases hx with
   | iface _ _ v' hv=>
   have hexec:(execOp a.eval o).run P w=.halt (.panic (.iface t v')) w:=by
    unfold execOp
    rw [hop]
    simp only [hz]
    rfl
   exact av6 (by rw [hop];simp) hexec (hq st own _ _ w h (.iface _ _ _ hv) hs)
  ·cases hs
 | _=>
  unfold step at hs
  rw [hop] at hs
  simp only at hs
  obtain ⟨_,hs⟩:=aa2 hs
  exact plain (by rw [hop];simp) (by rw [hop];exact hs)
end
end Go.Proofs.YtnpjififnhjbbaaDoor.E
namespace Go.Proofs.YtnpjififnhjbbaaDoor.E
open Go
section
variable {P:Program} {H:ae2} {mo:Nat->Nat->Prop} {acc:Own} {w0:World} {own:Own} {st:St} {a:Act} {w:World}
theorem ops_run (hH:HOk P H){rec:Rec}(hrec:aH8 P H rec)(ro:Option Nat)(f:FuncId)(all:Array Oper)(K:St->Option Out)(KP:Cont)(out:Out)(hK:∀(own:Own) (st:St) (a:Act) (w:World),FR P H mo acc w0 own st a w->K st=some out->QK P H mo acc w0 KP out .normal a w):
  ∀(l:List Oper) (i:Nat) (own:Own) (st:St) (a:Act) (w:World),all.toList.drop i=l->FR P H mo acc w0 own st a w->ops P H rec ro.isSome f all K KP l st=some out->wpOpsIn (FW ro) 0 P all (QK P H mo acc w0 KP out) (List.range' i l.length) a w
 | [],i,own,st,a,w,_,h,hs=>by
  simp only [ops] at hs
  exact hK own st a w h hs
 | o::r,i,own,st,a,w,hd,h,hs=>by
  have hoi:all[i]? =some o:=by
   have:(all.toList.drop i)[0]? =some o:=by rw [hd];rfl
   simpa using this
  have hr:all.toList.drop (i+1)=r:=by
   have:all.toList.drop (i+1)=(all.toList.drop i).drop 1:=by rw [List.drop_drop]
   rw [this,hd];rfl
  simp only [List.length_cons,List.range'_succ,wpOpsIn,hoi]
  have rest:=fun (own:Own) (st:St) (a:Act) (w:World)=>ops_run hH hrec ro f all K KP out hK r (i+1) own st a w hr
  have skip:ops P H rec ro.isSome f all K KP r (st.put o.dst (.tup [],.no))=some out->wpOpsIn (FW ro) 0 P all (QK P H mo acc w0 KP out) (List.range' (i+1) r.length) (a.put o.dst undef) w:=by
   intro hs
   exact rest _ _ _ _ (h.put o.dst (.tup []) .no undef (XRel.of (.tup [] #[] rfl fun j x y hx=>by simp at hx)) trivial) hs
  have go:step P H rec ro.isSome f o (ops P H rec ro.isSome f all K KP r) KP st=some out->o.wpIn (FW ro) 0 P a w (wpOpsIn (FW ro) 0 P all (QK P H mo acc w0 KP out) (List.range' (i+1) r.length)) (QK P H mo acc w0 KP out):=fun hs=>
   step_run hH hrec ro h f o _ KP out hs _ fun st' own' a' w' h' hk=>rest own' st' a' w' h' hk
  rw [ops] at hs
  cases hg:o.guard with
  | none=>
   rw [hg] at hs
   rw [if_pos (by simp [Region.wanted,hg])]
   exact go hs
  | some g=>
   obtain ⟨j,want⟩:=g
   rw [hg] at hs
   simp only at hs
   have hy:∀d,(all[j]?).bind (·.dst)=some d->∀x,a.tmps[d]? =some x->yielded all a.tmps j=(match x with | .bool b=>some b | _=>none):=by
    intro d e x ex
    unfold yielded
    rw [e]
    simp only [Option.bind_some,ex]
    cases x<;>rfl
   cases hd2:(all[j]?).bind (·.dst) with
   | none=>rw [hd2] at hs;simp at hs
   | some d=>
    rw [hd2] at hs
    simp only [Option.map_some] at hs
    have ht:=(h.tmp d).1
    have hin:∀v,(st.t.getD d (.undef,.no)).1=v->v≠.undef->∃x,a.tmps[d]? =some x/\a.tmps.getD d undef=x:=by
     intro v hv hne
     have hlt:d<st.t.length:=by
      rcases Nat.lt_or_ge d st.t.length with q | q
      ·exact q
      ·rw [List.getD_eq_getElem?_getD,List.getElem?_eq_none q] at hv
       exact absurd hv.symm hne
     have:d<a.tmps.size:=by rw [h.size];exact hlt
     exact ⟨a.tmps[d],Array.getElem?_eq_getElem this,by simp [Array.getD_eq_getD_getElem?,this]⟩
    split at hs
    ·rename_i b hb
     simp only [Option.some.injEq] at hb
     obtain ⟨x,ex,exd⟩:=hin _ hb (by simp)
     rw [hb,exd] at ht
     have:=aS9 ht
     subst this
     have hyb:=hy d hd2 _ ex
     simp only at hyb
     cases hbw:b==want with
     | true=>
      rw [hbw] at hs
      rw [if_pos (by simp only [Region.wanted,hg,hyb];simpa using hbw)]
      exact go hs
     | false=>
      rw [hbw] at hs
      rw [if_neg (by simp only [Region.wanted,hg,hyb];simpa using hbw)]
      exact ⟨fun f _=>br9 ro f,skip hs⟩
    ·rename_i hb
     simp only [Option.some.injEq] at hb
     obtain ⟨x,ex,exd⟩:=hin _ hb (by simp)
     rw [hb,exd] at ht
     have hxu:x=.tuple #[]:=by
      cases ht with
      | tup _ cs' hs2 _=>
       have:cs'= #[]:=Array.size_eq_zero_iff.1 (by simpa using hs2)
       rw [this]
     subst hxu
     have hyb:=hy d hd2 _ ex
     rw [if_neg (by simp [Region.wanted,hg,hyb])]
     exact ⟨fun f _=>br9 ro f,skip hs⟩
    ·cases hs
theorem FR.clear (h:FR P H mo acc w0 own st a w)(l:List Nat):FR P H mo acc w0 own (clearS l st) a w:=by
 have key:∀(l:List Nat) (t:List (V×Tag)),(l.foldl (fun t i=>t.set i (.undef,.no)) t).length=t.length/\∀(i:Nat) (p:V×Tag),(l.foldl (fun t i=>t.set i (.undef,.no)) t)[i]? =some p->t[i]? =some p∨p=(.undef,.no):=by
  intro l
  induction l with
  | nil=>exact fun t=>⟨rfl,fun i p hp=>.inl hp⟩
  | cons j r ih=>
   intro t
   obtain ⟨h1,h2⟩:=ih (t.set j (.undef,.no))
   refine ⟨by simpa using h1,fun i p hp=>?_⟩
   rcases h2 i p hp with q | q
   ·rw [List.getElem?_set] at q
    split at q
    ·split at q
     ·injection q with q;exact .inr q.symm
     ·cases q
    ·exact .inl q
   ·exact .inr q
 obtain ⟨h1,h2⟩:=key l st.t
 exact {h with
  size:=by show a.tmps.size=(l.foldl _ st.t).length;rw [h1];exact h.size
  slot:=fun i v tag x hv hx=>by
   rcases h2 i (v,tag) hv with q | q
   ·exact h.slot i v tag x q hx
   ·injection q with q1 q2
    subst q1;subst q2
    exact ⟨trivial,trivial⟩}
end
end Go.Proofs.YtnpjififnhjbbaaDoor.E
namespace Go.Proofs.YtnpjififnhjbbaaDoor.E
open Go
section
variable {P:Program} {H:ae2} {mo:Nat->Nat->Prop} {acc:Own} {w0:World} {own:Own} {st:St} {a:Act} {w:World}
theorem aV9 {α:Type}[DecidableEq α]:∀(l:List α) (x:α) (i:Nat),l.idxOf? x=some i->l[i]? =some x
 | [],x,i,h=>by simp [List.idxOf?] at h
 | y::r,x,i,h=>by
  rw [List.idxOf?_cons] at h
  split at h
  ·rename_i e;simp at h;subst h;simpa using e
  ·obtain ⟨j,hj,rfl⟩:=Option.map_eq_some_iff.1 h
   simpa using aV9 r x j hj
theorem aZ5 {l:List Nat}:∀(ts:List Tag),aQ2 l ts=true->∀(i g:Nat),ts[i]? =some (.tok g)->g∈l
 | [],_,i,g,h=>by simp at h
 | t::r,hk,i,g,h=>by
  cases t with
  | no=>simp [aQ2] at hk
  | full=>cases i with
   | zero=>simp at h
   | succ i=>exact aZ5 r (by simpa [aQ2] using hk) i g (by simpa using h)
  | tok g'=>
   simp only [aQ2,Bool.and_eq_true] at hk
   cases i with
   | zero=>simp at h;subst h;simpa using hk.1.1
   | succ i=>exact aZ5 r hk.2 i g (by simpa using h)
theorem aZ4 {l:List Nat}:∀(ts:List Tag),aQ2 l ts=true->∀(i j g:Nat),ts[i]? =some (.tok g)->ts[j]? =some (.tok g)->i=j
 | [],_,i,j,g,h,_=>by simp at h
 | t::r,hk,i,j,g,h,h'=>by
  cases t with
  | no=>simp [aQ2] at hk
  | full=>
   cases i with
   | zero=>simp at h
   | succ i=>cases j with
    | zero=>simp at h'
    | succ j=>rw [aZ4 r (by simpa [aQ2] using hk) i j g (by simpa using h) (by simpa using h')]
  | tok g'=>
   simp only [aQ2,Bool.and_eq_true] at hk
   have hn:Tag.tok g'∉r:=by simpa using hk.1.2
   cases i with
   | zero=>cases j with
    | zero=>rfl
    | succ j=>simp at h h';subst h;exact absurd (List.mem_of_getElem? h') hn
   | succ i=>cases j with
    | zero=>simp at h h';subst h';exact absurd (List.mem_of_getElem? h) hn
    | succ j=>rw [aZ4 r hk.2 i j g (by simpa using h) (by simpa using h')]
def Own.ren (o:Own)(ts:List Tag):Own
 | .tok i=>match ts[i]? with | some (.tok g)=>o (.tok g) | _=>none
 | k=>o k
theorem aQ9 {o:Own}{ts:List Tag}{i:Nat}{r:Reg}(h:o.ren ts (.tok i)=some r):∃g,ts[i]? =some (.tok g)/\o (.tok g)=some r:=by
 simp only [Own.ren] at h
 generalize hz:ts[i]? =z at h
 match z,h with
 | some (.tok g),h=>exact ⟨g,rfl,h⟩
 | some .no,h=>cases h
 | some .full,h=>cases h
 | none,h=>cases h
theorem bu3 {o:Own}{ts:List Tag}{k:Key}{r:Reg}(h:o.ren ts k=some r):∃k0,o k0=some r:=by
 cases k with
 | tok i=>obtain ⟨g,_,e⟩:=aQ9 h;exact ⟨_,e⟩
 | _=>exact ⟨_,h⟩
theorem ren_subL {o:Own}{ts:List Tag}{k:Key}{r:Reg}(l:k.live=true)(h:o.ren ts k=some r):∃k0,k0.live=true/\o k0=some r:=by
 cases k with
 | tok i=>obtain ⟨g,_,e⟩:=aQ9 h;exact ⟨_,rfl,e⟩
 | _=>exact ⟨_,l,h⟩
theorem ren_t {l:List Nat}{g0:Nat}{ks:List Spot}{ts:List Tag}(hk:aQ2 l ts=true)(hlen:ts.length=ks.length){v:V}{tag:Tag}{x:Value}(h:TRel own l g0 v tag x)(s:Option Spot):
  TRel (own.ren ts) (List.range ks.length) ks.length v (renT ks ts s tag) x:=by
 cases tag with
 | no=>trivial
 | full=>
  unfold renT
  simp only
  split
  ·rename_i i e
   obtain ⟨sp,rfl,hs⟩:=Option.bind_eq_some_iff.1 e
   have:=aV9 _ _ _ hs
   exact ⟨(List.getElem?_eq_some_iff.1 this).1,fun _ k es b o n c _ e2=>.inl (h _ _ _ e2)⟩
  ·exact h
 | tok g=>
  unfold renT
  simp only
  split
  ·rename_i i e
   have hi:=aV9 _ _ _ e
   have hlt:=(List.getElem?_eq_some_iff.1 hi).1
   refine ⟨by omega,fun _ k es b o n c e1 e2=>?_⟩
   rw [show own.ren ts (.tok i)=own (.tok g) by unfold Own.ren;simp only [hi]]
   exact h.2 (aZ5 ts hk i g hi) k es b o n c e1 e2
  ·trivial
theorem aD0 {α β:Type}(l:List α)(f:α×Nat->β)(i:Nat):(l.zipIdx.map f)[i]? =(l[i]?).map fun x=>f (x,i):=by
 rw [List.getElem?_map,List.getElem?_zipIdx]
 cases l[i]? <;>simp
theorem FR.canon (h:FR P H mo acc w0 own st a w)(ks:List Spot)(st':St)(hc:bA0 ks st=some st'):∃own',FR P H mo acc w0 own' st' a w:=by
 unfold bA0 at hc
 simp only at hc
 obtain ⟨hk,hc⟩:=aa2 hc
 simp only [Option.some.injEq] at hc
 generalize hts:ks.map (tagAt st)=ts at hk hc
 have hlen:ts.length=ks.length:=by rw [←hts];simp
 let own':=own.ren ts
 have hrho:own'.rho=own.rho:=rfl
 have hsub:∀b x,own'.has b x->own.has b x:=by
  rintro b x ⟨k,r,e,hr⟩
  obtain ⟨k0,e0⟩:=bu3 e
  exact ⟨k0,r,e0,hr⟩
 have hb:Base mo own' w:=by
  refine ⟨fun k r k' r' l l' e e' he=>?_,fun id r e=>h.sr.base.gone id r e,fun k r e=>?_,fun k r b x e hx=>?_,fun k r e hr=>?_⟩
  ·cases k with
   | tok i=>
    obtain ⟨g,g1,g2⟩:=aQ9 e
    cases k' with
    | tok j=>
     obtain ⟨g',g1',g2'⟩:=aQ9 e'
     have:=h.sr.base.inj _ _ _ _ rfl rfl g2 g2' he
     injection this with this
     subst this
     rw [aZ4 ts hk i j g g1 g1']
    | loc j=>exact absurd (h.sr.base.inj _ _ _ _ rfl rfl g2 e' he) (by simp)
    | obj j=>exact absurd (h.sr.base.inj _ _ _ _ rfl rfl g2 e' he) (by simp)
    | spare j o=>exact absurd (h.sr.base.inj _ _ _ _ rfl rfl g2 e' he) (by simp)
    | ghost j=>cases l'
   | _=>
    cases k' with
    | tok j=>
     obtain ⟨g',g1',g2'⟩:=aQ9 e'
     exact absurd (h.sr.base.inj _ _ _ _ l rfl e g2' he) (by simp)
    | _=>exact h.sr.base.inj _ _ _ _ l l' e e' he
  ·obtain ⟨k0,e0⟩:=bu3 e;exact h.sr.base.lt _ _ e0
  ·obtain ⟨k0,e0⟩:=bu3 e;exact h.sr.base.off _ _ _ _ e0 hx
  ·cases k with
   | tok i=>obtain ⟨g,g1,g2⟩:=aQ9 e;exact h.sr.base.room _ _ g2 rfl
   | spare i o=>exact h.sr.base.room _ _ e rfl
   | loc i=>cases hr
   | obj i=>cases hr
   | ghost i=>cases hr
 have p:Post mo own w own' w (fun k=>∃g,k=.tok g):=
  ⟨Keep.refl _ _,fun b x hx=>.inl (hsub b x hx),fun k r l e=>.inl (let ⟨k0,l0,e0⟩:=ren_subL l e;⟨k0,r,l0,e0,rfl⟩),fun id b e=>by rw [hrho];exact e,
   fun k r e hT=>⟨by cases k with
    | tok g=>exact absurd ⟨g,rfl⟩ hT
    | _=>exact e,fun _=>rfl⟩,
   fun k hT e=>by cases k with
    | tok g=>exact absurd ⟨g,rfl⟩ hT
    | _=>exact e,hb⟩
 refine ⟨own',?_⟩
 subst hc
 exact {
  sr:=⟨hb,fun id o ho=>aP0.post p (h.sr.objs id o ho) (by simp) (by simp),fun id hi=>h.sr.newObj id hi,fun id off r e=>h.sr.spare id off r e⟩
  keep:=h.keep
  old:=fun b x hb hx=>h.old b x hb (hsub b x hx)
  oldB:=fun k r l e hr=>by obtain ⟨k0,l0,e0⟩:=ren_subL l e;exact h.oldB k0 r l0 e0 hr
  mlt:=h.mlt
  rho0:=fun id b e=>by rw [hrho];exact h.rho0 id b e
  size:=by simp [h.size]
  slot:=fun i v tag x hv hx=>by
   simp only at hv
   rw [aD0] at hv
   obtain ⟨q,hq,e⟩:=Option.map_eq_some_iff.1 hv
   injection e with e1 e2
   obtain ⟨r1,r2⟩:=h.slot i q.1 q.2 x hq hx
   subst e1;subst e2
   exact ⟨r1.stay p.stay (fun j r e=>e),ren_t hk hlen r2 _⟩
  arena:=fun i box hbx=>by
   simp only at hbx
   rw [aD0] at hbx
   obtain ⟨bx,hq,e⟩:=Option.map_eq_some_iff.1 hbx
   subst e
   intro hne
   obtain ⟨b,cs,ty,h1,h2,h3,h4⟩:=h.arena i bx hq (by rintro rfl;simp at hne)
   refine ⟨b,cs,ty,by show own (.loc i)=_;simpa using h1,h2,by simpa using h3,fun j v tag x hv hx=>?_⟩
   simp only at hv
   rw [aD0] at hv
   obtain ⟨q,hq,e⟩:=Option.map_eq_some_iff.1 hv
   injection e with e1 e2
   obtain ⟨r1,r2,r3⟩:=h4 j q.1 q.2 x hq hx
   subst e1;subst e2
   exact ⟨r1,p.stay.v r2,ren_t hk hlen r3 _⟩
  newTok:=fun g hg=>by
   have:ts[g]? =none:=List.getElem?_eq_none (by rw [hlen];simpa using hg)
   show own.ren ts (.tok g)=none
   unfold Own.ren;simp only [this]
  tokLt:=fun g hg=>by simpa using hg
  newLoc:=fun i hi=>h.newLoc i (by
   simp only [List.getD_eq_getElem?_getD] at hi ⊢
   rw [aD0] at hi
   cases e:st.a[i]? with
   | none=>rfl
   | some bx=>rw [e] at hi;simpa using hi)
  dsize:=h.dsize
  dfr:=fun i d d' e e'=>(h.dfr i d d' e e').post p
  marks:=h.marks
  glob:=fun g cs e=>by
   obtain ⟨f,h1,h2,h3⟩:=h.glob g cs e
   exact ⟨f,h1,fun j x hx=>p.stay.cell _ _ _ (h2 j x hx).1 (h2 j x hx).2,fun j x hx=>p.stay.v (h3 j x hx)⟩}
theorem FR.drops :∀(l:List Nat) {own:Own} {st st':St},FR P H mo acc w0 own st a w->bq8 st l=some st'->∃own',FR P H mo acc w0 own' st' a w
 | [],own,st,st',h,e=>by
  simp only [bq8,Option.some.injEq] at e
  subst e
  exact ⟨own,h⟩
 | i::r,own,st,st',h,e=>by
  simp only [bq8] at e
  obtain ⟨e1,e2⟩:=aa2 e
  exact FR.drops r (h.dropLoc i e1).1 e2
theorem FR.weak1 (h:FR P H mo acc w0 own st a w)(s:Spot):FR P H mo acc w0 own (bs4 st s) a w:=by
 cases s with
 | slot i=>
  unfold bs4
  exact {h with
   size:=by simpa using h.size
   slot:=fun j v tag x hv hx=>by
    simp only at hv
    rw [List.getElem?_set] at hv
    split at hv
    ·rename_i e
     subst e
     split at hv
     ·rename_i hlt
      simp only [Option.some.injEq] at hv
      injection hv with e1 e2
      obtain ⟨q1,q2⟩:=h.slot i (st.t.getD i (.undef,.no)).1 (st.t.getD i (.undef,.no)).2 x (by rw [List.getD_eq_getElem?_getD,List.getElem?_eq_getElem hlt];rfl) hx
      subst e1;subst e2
      exact ⟨q1,trivial⟩
     ·cases hv
    ·exact h.slot j v tag x hv hx}
 | cell i k=>
  unfold bs4
  exact {h with
   arena:=fun j box hb=>by
    simp only at hb
    rw [List.getElem?_set] at hb
    split at hb
    ·rename_i e
     subst e
     split at hb
     ·rename_i hlt
      simp only [Option.some.injEq] at hb
      have hg:st.a[i]? =some (st.a.getD i []):=by rw [List.getD_eq_getElem?_getD,List.getElem?_eq_getElem hlt];rfl
      subst hb
      intro hne
      obtain ⟨b,cs,ty,h1,h2,h3,h4⟩:=h.arena i _ hg (by intro q;rw [q] at hne;simp at hne)
      refine ⟨b,cs,ty,by simpa using h1,h2,by simpa using h3,fun j v tag x hv hx=>?_⟩
      rw [List.getElem?_set] at hv
      split at hv
      ·rename_i e
       subst e
       split at hv
       ·rename_i hlt2
        simp only [Option.some.injEq] at hv
        injection hv with e1 e2
        obtain ⟨q1,q2,q3⟩:=h4 k ((st.a.getD i []).getD k (.undef,.no)).1 ((st.a.getD i []).getD k (.undef,.no)).2 x (by
         rw [List.getD_eq_getElem?_getD (l:=st.a.getD i []),List.getElem?_eq_getElem hlt2];rfl) hx
        subst e1;subst e2
        exact ⟨q1,q2,trivial⟩
       ·cases hv
      ·exact h4 j v tag x hv hx
     ·cases hb
    ·exact h.arena j box hb
   newLoc:=fun j hj=>h.newLoc j (by
    simp only [List.getD_eq_getElem?_getD] at hj ⊢
    rw [List.getElem?_set] at hj
    split at hj
    ·rename_i e
     subst e
     split at hj
     ·rename_i hlt
      rw [List.getElem?_eq_getElem hlt] at hj ⊢
      simpa using hj
     ·rename_i hge
      rw [List.getElem?_eq_none (by omega)];rfl
    ·exact hj)}
theorem FR.weaks :∀(l:List Spot) {st:St},FR P H mo acc w0 own st a w->FR P H mo acc w0 own (l.foldl bs4 st) a w
 | [],st,h=>h
 | s::r,st,h=>FR.weaks r (h.weak1 s)
theorem FR.setSlot (h:FR P H mo acc w0 own st a w)(i:Nat)(u:V)(hu:∀x,a.tmps[i]? =some x->XRel (Mut mo own) own w u x):FR P H mo acc w0 own {st with t:=st.t.set i (u,.no)} a w:={h with
 size:=by simpa using h.size
 slot:=fun j v tag x hv hx=>by
  simp only at hv
  rw [List.getElem?_set] at hv
  split at hv
  ·rename_i e
   subst e
   split at hv
   ·simp only [Option.some.injEq] at hv
    injection hv with e1 e2
    subst e1;subst e2
    exact ⟨hu x hx,trivial⟩
   ·cases hv
  ·exact h.slot j v tag x hv hx}
theorem FR.setCell (h:FR P H mo acc w0 own st a w)(i k:Nat)(u:V)(hg:u.good=true)(hu:∀b cs ty x,own (.loc i)=some (b,0,(st.a.getD i []).length)->w.heap[b]? =some (.cells cs ty (0,0))->cs[k]? =some x->VRel (Mut mo own) own.rho w u x):FR P H mo acc w0 own {st with a:=st.a.set i ((st.a.getD i []).set k (u,.no))} a w:={h with
 arena:=fun j box hb=>by
  simp only at hb
  rw [List.getElem?_set] at hb
  split at hb
  ·rename_i e
   subst e
   split at hb
   ·rename_i hlt
    simp only [Option.some.injEq] at hb
    have hg0:st.a[i]? =some (st.a.getD i []):=by rw [List.getD_eq_getElem?_getD,List.getElem?_eq_getElem hlt];rfl
    subst hb
    intro hne
    obtain ⟨b,cs,ty,h1,h2,h3,h4⟩:=h.arena i _ hg0 (by intro q;rw [q] at hne;simp at hne)
    refine ⟨b,cs,ty,by simpa using h1,h2,by simpa using h3,fun j v tag x hv hx=>?_⟩
    rw [List.getElem?_set] at hv
    split at hv
    ·rename_i e
     subst e
     split at hv
     ·rename_i hlt2
      simp only [Option.some.injEq] at hv
      injection hv with e1 e2
      subst e1;subst e2
      exact ⟨hg,hu b cs ty x h1 h2 hx,trivial⟩
     ·cases hv
    ·exact h4 j v tag x hv hx
   ·cases hb
  ·exact h.arena j box hb
 newLoc:=fun j hj=>h.newLoc j (by
  simp only [List.getD_eq_getElem?_getD] at hj ⊢
  rw [List.getElem?_set] at hj
  split at hj
  ·rename_i e
   subst e
   split at hj
   ·rename_i hlt
    rw [List.getElem?_eq_getElem hlt] at hj ⊢
    simpa using hj
   ·rename_i hge
    rw [List.getElem?_eq_none (by omega)];rfl
  ·exact hj)}
theorem partV_rel {M:Nat->Nat->Prop}{ρ:Nat->Option (Nat×Nat)}{c:Option Nat}{v p:V}{x:Value}(hp:aR3 c v=some p)(hx:VRel M ρ w v x):
  ∃y,VRel M ρ w p y/\(v.good=true->(aD6 c v p).good=true∨True)/\∀{M':Nat->Nat->Prop} {ρ':Nat->Option (Nat×Nat)} (u:V),u.good=true->(∀{v:V} {x:Value},VRel M ρ w v x->VRel M' ρ' w v x)->VRel M' ρ' w u y->VRel M' ρ' w (aD6 c v u) x:=by
 cases c with
 | none=>
  simp only [aR3,Option.some.injEq] at hp
  subst hp
  exact ⟨x,hx,fun _=>.inr trivial,fun u _ _ h=>h⟩
 | some j=>
  unfold aR3 at hp
  cases v with
  | agg cs=>
   simp only at hp
   cases hx with
   | agg _ cs' hs hg hh=>
   have hj:=(List.getElem?_eq_some_iff.1 hp).1
   have hj':cs'[j]? =some (cs'[j]'(by omega)):=Array.getElem?_eq_getElem (by omega)
   refine ⟨_,hh j p _ hp hj',fun _=>.inr trivial,fun u hu hv h=>?_⟩
   refine .agg _ _ (by simpa using hs) (az6 _ fun y hy=>?_) fun i p2 q2 h1 h2=>?_
   ·rcases List.mem_or_eq_of_mem_set hy with q | q
    ·exact bb9 _ hg y q
    ·rw [q];exact hu
   ·rw [List.getElem?_set] at h1
    by_cases e:j=i
    ·subst e
     rw [if_pos rfl,if_pos hj] at h1
     injection h1 with h1
     subst h1
     rw [hj'] at h2
     injection h2 with h2
     rw [←h2];exact h
    ·rw [if_neg e] at h1
     exact hv (hh i p2 q2 h1 h2)
  | _=>cases hp
theorem FR.gUp (h:FR P H mo acc w0 own st a w):FR P H mo acc w0 own {st with g:=st.g+1} a w:={h with
 slot:=fun i v tag x hv hx=>⟨(h.slot i v tag x hv hx).1,(h.slot i v tag x hv hx).2.mono (Nat.le_succ _) (fun g _ m=>m) (fun g _ _=>rfl)⟩
 arena:=fun i box hb hne=>by
  obtain ⟨b,cs,ty,h1,h2,h3,h4⟩:=h.arena i box hb hne
  exact ⟨b,cs,ty,h1,h2,h3,fun j v tag x hv hx=>⟨(h4 j v tag x hv hx).1,(h4 j v tag x hv hx).2.1,(h4 j v tag x hv hx).2.2.mono (Nat.le_succ _) (fun g _ m=>m) (fun g _ _=>rfl)⟩⟩
 tokLt:=fun g hg=>Nat.lt_succ_of_lt (h.tokLt g hg)}
theorem FR.frzV (h:FR P H mo acc w0 own st a w){v u:V}{s':List O}(e:E.frzV st.s v=some (u,s')){x:Value}(hx:VRel (Mut mo own) own.rho w v x):
  ∃own',FR P H mo acc w0 own' {st with g:=st.g+1,s:=s'} a w/\(∀i,own' (.loc i)=own (.loc i))/\VRel (Mut mo own') own'.rho w u x/\u.good=true/\(∀{v:V} {x:Value},VRel (Mut mo own) own.rho w v x->VRel (Mut mo own') own'.rho w v x):=by
 unfold E.frzV at e
 split at e
 ·rename_i id off k n c
  split at e
  ·rename_i box hbox
   obtain ⟨hck,e⟩:=aa2 e
   simp only [Bool.and_eq_true,Nat.blt_eq,Nat.ble_eq,List.all_eq_true] at hck
   obtain ⟨⟨hle,hk⟩,hall⟩:=hck
   simp only [Option.some.injEq] at e
   injection e with e1 e2
   subst e1;subst e2
   obtain ⟨b,m,hy⟩:∃b m,x=.slice (some ⟨b,off,none⟩) n m:=by
    cases hx with
    | slo _ _ _ _ _ b m _ _ _ _=>exact ⟨b,m,rfl⟩
   subst hy
   obtain ⟨own1,p1,p2,p5,p3,p4⟩:=h.freeze hbox hle hk (fun j v hj=>by have:=hall _ (List.mem_of_getElem? hj);simp at this) hx
   obtain ⟨p6,p7⟩:=p1.bs6 st.g
   have hl:(st.g::st.l).filter (· !=st.g)=st.l:=by
    rw [List.filter_cons_of_neg (by simp)]
    apply List.filter_eq_self.2
    intro g hg
    have:=h.tokLt g hg
    simp;omega
   refine ⟨_,?_,fun i=>by rw [Own.ab6 _ _ (by simp)];exact p5 i,p7.v p3,rfl,fun z=>p7.v (p2.v z)⟩
   have p6':=p6
   simp only [hl] at p6'
   exact p6'
  ·cases e
 ·simp only [Option.some.injEq] at e
  injection e with e1 e2
  subst e1;subst e2
  exact ⟨own,h.gUp,fun _=>rfl,hx,rfl,fun z=>z⟩
 ·cases e
theorem FR.frz1 (h:FR P H mo acc w0 own st a w)(p:Spot×Option Nat)(st':St)(e:frzS st p=some st'):∃own',FR P H mo acc w0 own' st' a w:=by
 unfold frzS at e
 obtain ⟨v,hv,e⟩:=Option.bind_eq_some_iff.1 e
 obtain ⟨q,hf,e⟩:=Option.bind_eq_some_iff.1 e
 obtain ⟨u,s'⟩:=q
 simp only [Option.some.injEq] at e
 subst e
 have hv0:v≠.undef/\(∀i o,v≠.loc i o):=by
  constructor
  ·rintro rfl;cases hf
  ·rintro i o rfl;cases hf
 have hnu:∀u,aR3 p.2 u=some v->u≠.undef/\∀i o,u≠.loc i o:=by
  intro u hu
  constructor
  ·rintro rfl
   obtain ⟨s,c0⟩:=p
   cases c0 with
   | none=>simp only [aR3,Option.some.injEq] at hu;exact hv0.1 hu.symm
   | some j=>simp [aR3] at hu
  ·rintro i o rfl
   obtain ⟨s,c0⟩:=p
   cases c0 with
   | none=>simp only [aR3,Option.some.injEq] at hu;exact hv0.2 i o hu.symm
   | some j=>simp [aR3] at hu
 have go:∀x,VRel (Mut mo own) own.rho w (aQ5 st p.1) x->∃own',FR P H mo acc w0 own' {st with g:=st.g+1,s:=s'} a w/\(∀i,own' (.loc i)=own (.loc i)) /\
   VRel (Mut mo own') own'.rho w (aD6 p.2 (aQ5 st p.1) u) x/\u.good=true:=by
  intro x hx
  obtain ⟨y,y1,_,y3⟩:=partV_rel hv hx
  obtain ⟨own',f1,f2,f3,f4,f5⟩:=h.frzV hf y1
  exact ⟨own',f1,f2,y3 u f4 f5 f3,f4⟩
 cases hp:p.1 with
 | slot i=>
  rw [hp] at hv go
  by_cases hi:∃x,a.tmps[i]? =some x
  ·obtain ⟨x,hx⟩:=hi
   have hlt:i<st.t.length:=by rw [←h.size];exact (Array.getElem?_eq_some_iff.1 hx).1
   have hs:st.t[i]? =some (st.t.getD i (.undef,.no)):=by rw [List.getD_eq_getElem?_getD,List.getElem?_eq_getElem hlt];rfl
   have hr:=(h.slot i _ _ x hs hx).1.to (hnu _ hv).1 (hnu _ hv).2
   obtain ⟨own',f1,f2,f5,f6⟩:=go x hr
   refine ⟨own',f1.setSlot i _ fun x' hx'=>?_⟩
   rw [hx] at hx'
   injection hx' with hx'
   rw [←hx']
   exact XRel.of f5
  ·exfalso
   have hlt:¬i<st.t.length:=by
    rw [←h.size]
    intro q
    exact hi ⟨_,Array.getElem?_eq_getElem q⟩
   have:aQ5 st (.slot i)=.undef:=by
    show (st.t.getD i (.undef,.no)).1=_
    rw [List.getD_eq_getElem?_getD,List.getElem?_eq_none (by omega)];rfl
   exact (hnu _ hv).1 this
 | cell i j=>
  rw [hp] at hv go
  have hne:(st.a.getD i [])≠[]:=by
   intro q
   have:aQ5 st (.cell i j)=.undef:=by show ((st.a.getD i []).getD j (.undef,.no)).1=_;rw [q];rfl
   exact (hnu _ hv).1 this
  have hi:i<st.a.length:=by
   rcases Nat.lt_or_ge i st.a.length with q | q
   ·exact q
   ·rw [List.getD_eq_getElem?_getD,List.getElem?_eq_none q] at hne;exact absurd rfl hne
  have hj:j<(st.a.getD i []).length:=by
   rcases Nat.lt_or_ge j (st.a.getD i []).length with q | q
   ·exact q
   ·have:aQ5 st (.cell i j)=.undef:=by show ((st.a.getD i []).getD j (.undef,.no)).1=_;rw [List.getD_eq_getElem?_getD (l:=st.a.getD i []),List.getElem?_eq_none q];rfl
    exact absurd this (hnu _ hv).1
  have hg0:st.a[i]? =some (st.a.getD i []):=by rw [List.getD_eq_getElem?_getD,List.getElem?_eq_getElem hi];rfl
  obtain ⟨b,cs,ty,h1,h2,h3,h4⟩:=h.arena i _ hg0 hne
  have hx:cs[j]? =some (cs[j]'(by omega)):=Array.getElem?_eq_getElem (by omega)
  have hb:(st.a.getD i [])[j]? =some ((st.a.getD i []).getD j (.undef,.no)):=by rw [List.getD_eq_getElem?_getD (l:=st.a.getD i []),List.getElem?_eq_getElem hj];rfl
  obtain ⟨z1,z2,z3⟩:=h4 j _ _ _ hb hx
  obtain ⟨own',f1,f2,f5,f6⟩:=go _ z2
  have hgood:(aD6 p.2 (aQ5 st (.cell i j)) u).good=true:=by
   cases hc:p.2 with
   | none=>exact f6
   | some c0=>
    exfalso
    rw [hc] at hv
    unfold aR3 at hv
    simp only at hv
    split at hv
    ·rename_i cs0 he
     have he:((st.a.getD i []).getD j (.undef,.no)).1=.agg cs0:=he
     have z1:((st.a.getD i []).getD j (.undef,.no)).1.good=true:=z1
     rw [he] at z1
     cases z1
    ·cases hv
  refine ⟨own',f1.setCell i j (aD6 p.2 (aQ5 st (.cell i j)) u) hgood fun b' cs' ty' x' q1 q2 q3=>?_⟩
  rw [f2,h1] at q1
  injection q1 with q1
  injection q1 with q1 _
  subst q1
  rw [h2] at q2
  injection q2 with q2
  injection q2 with q2 _ _
  subst q2
  rw [hx] at q3
  injection q3 with q3
  subst q3
  exact f5
theorem FR.frzs :∀(l:List (Spot×Option Nat)) {own:Own} {st st':St},FR P H mo acc w0 own st a w->frzL l st=some st'->∃own',FR P H mo acc w0 own' st' a w
 | [],own,st,st',h,e=>by
  simp only [frzL,Option.some.injEq] at e
  subst e
  exact ⟨own,h⟩
 | p::r,own,st,st',h,e=>by
  simp only [frzL] at e
  obtain ⟨st1,e1,e2⟩:=Option.bind_eq_some_iff.1 e
  obtain ⟨own1,h1⟩:=h.frz1 p st1 e1
  exact FR.frzs r h1 e2
theorem FR.aY7 (h:FR P H mo acc w0 own st a w)(b:Bhd)(st':St)(e:E.behind b st=some st'):∃own',FR P H mo acc w0 own' st' a w:=by
 unfold E.behind at e
 obtain ⟨st0,h0,e⟩:=Option.bind_eq_some_iff.1 e
 obtain ⟨own0,h⟩:=h.frzs _ h0
 obtain ⟨st1,h1,h2⟩:=Option.bind_eq_some_iff.1 e
 obtain ⟨own1,q1⟩:=FR.drops _ (h.clear b.clear) h1
 simp only at h2
 split at h2
 ·simp only [Option.some.injEq] at h2
  subst h2
  exact ⟨own1,q1.weaks _⟩
 ·exact (q1.weaks _).canon _ _ h2
theorem FR.behind (h:FR P H mo acc w0 own st a w)(f:FuncId)(id:Nat)(K:Cont)(out:Out)(e:(E.behind (H.br f id) st).bind (K .normal)=some out):QK P H mo acc w0 K out .normal a w:=by
 obtain ⟨st',h1,h2⟩:=Option.bind_eq_some_iff.1 e
 obtain ⟨own',q⟩:=h.aY7 _ _ h1
 exact ⟨_,_,q,h2⟩
theorem FR.branch (h:FR P H mo acc w0 own st a w)(f:FuncId)(c:Operand)(b:Bool)(X:St->Option Out)(out:Out)(e:(E.branch H f c b st).bind X=some out):∃st' own',FR P H mo acc w0 own' st' a w/\X st'=some out:=by
 obtain ⟨st',h1,h2⟩:=Option.bind_eq_some_iff.1 e
 unfold E.branch at h1
 split at h1
 ·obtain ⟨own',q⟩:=h.aY7 _ _ h1
  exact ⟨_,_,q,h2⟩
 ·simp only [Option.some.injEq] at h1
  subst h1
  exact ⟨_,_,h,h2⟩
end
end Go.Proofs.YtnpjififnhjbbaaDoor.E
namespace Go.Proofs.YtnpjififnhjbbaaDoor.E
open Go
section
variable {P:Program} {H:ae2}
theorem evs_t {st st2:St}{l:List Operand}(h:∀x∈l,ev H st2 x=ev H st x):evs H st2 l=evs H st l:=by
 unfold evs
 exact List.map_congr_left fun x hx=>by rw [h x hx]
theorem be8 {st st2:St}{l:List (Nat×Operand)}(h:∀x∈l.map (·.2),ev H st2 x=ev H st x):(l.map fun p=>(p.1,(ev H st2 p.2).1))=l.map fun p=>(p.1,(ev H st p.2).1):=
 List.map_congr_left fun x hx=>by rw [h x.2 (List.mem_map_of_mem hx)]
theorem opt_t {st st2:St}{o:Option Operand}(h:∀x∈o.toList,ev H st2 x=ev H st x):(o.map fun o=>(ev H st2 o).1)=o.map fun o=>(ev H st o).1:=by
 cases o with
 | none=>rfl
 | some x=>simp [h x (by simp)]
def aw9 (st st1:St)(r:V×Tag)(X:St->Option ((V×Tag)×St)):Prop:=
 st1.t=st.t/\st1.d=st.d/\∀t2,X {st with t:=t2}=some (r,{st1 with t:=t2})
theorem bx0 (f:FuncId)(dst:Nat)(t:TypeId)(p:V)(st st1:St)(r:V×Tag)(h:ak8 P H f dst t p st=some (r,st1)):aw9 st st1 r (ak8 P H f dst t p)/\st1.a=st.a/\(H.take f dst=false->st1=st):=by
 unfold ak8 at h
 simp only at h
 have h0:=aa2 h
 obtain ⟨hu,h0⟩:=h0
 have fin:∀(X:Option ((V×Tag)×St)),ak8 P H f dst t p st=some (r,st1)->True:=fun _ _=>trivial
 have same:st1=st->(∀t2,ak8 P H f dst t p {st with t:=t2}=(ak8 P H f dst t p st).map fun q=>(q.1,{q.2 with t:=t2}))->aw9 st st1 r (ak8 P H f dst t p)/\st1.a=st.a/\(H.take f dst=false->st1=st):=by
  intro e g
  refine ⟨⟨by rw [e],by rw [e],fun t2=>?_⟩,by rw [e],fun _=>e⟩
  rw [g t2]
  have:ak8 P H f dst t p st=some (r,st1):=by unfold ak8;exact h
  rw [this];rfl
 cases p with
 | ref cs=>
  obtain ⟨c,hc,h0⟩:=Option.bind_eq_some_iff.1 h0
  obtain ⟨v,hv,h0⟩:=Option.map_eq_some_iff.1 h0
  injection h0 with e1 e2
  subst e1;subst e2
  exact ⟨⟨rfl,rfl,fun t2=>by simp [ak8,ck,hu,hc,hv]⟩,rfl,fun _=>rfl⟩
 | loc i off=>
  obtain ⟨box,hb,h0⟩:=Option.bind_eq_some_iff.1 h0
  obtain ⟨he,h0⟩:=aa2 h0
  obtain ⟨c,hc,h0⟩:=Option.bind_eq_some_iff.1 h0
  cases ha:af4 P t with
  | false=>
   cases c with
   | nil=>
    rw [ha] at h0;simp only at h0
    obtain ⟨v,hv,h0⟩:=Option.map_eq_some_iff.1 h0
    injection h0 with e1 e2
    subst e1;subst e2
    exact ⟨⟨rfl,rfl,fun t2=>by simp only [ak8,ck,hu,hb,he,hc,ha,cond_true,Option.bind_some];rw [show au8 P t _=some v from hv];rfl⟩,rfl,fun _=>rfl⟩
   | cons x xs=>
    cases xs with
    | nil=>
     rw [ha] at h0;simp only [Option.some.injEq] at h0
     injection h0 with e1 e2
     subst e1;subst e2
     exact ⟨⟨rfl,rfl,fun t2=>by simp only [ak8,ck,hu,hb,he,hc,ha,cond_true,Option.bind_some]⟩,rfl,fun _=>rfl⟩
    | cons y ys=>
     rw [ha] at h0;simp only at h0
     obtain ⟨v,hv,h0⟩:=Option.map_eq_some_iff.1 h0
     injection h0 with e1 e2
     subst e1;subst e2
     exact ⟨⟨rfl,rfl,fun t2=>by simp only [ak8,ck,hu,hb,he,hc,ha,cond_true,Option.bind_some];rw [show au8 P t _=some v from hv];rfl⟩,rfl,fun _=>rfl⟩
  | true=>
   rw [ha] at h0;simp only at h0
   obtain ⟨v,hv,h0⟩:=Option.map_eq_some_iff.1 h0
   injection h0 with e1 e2
   subst e1;subst e2
   exact ⟨⟨rfl,rfl,fun t2=>by simp only [ak8,ck,hu,hb,he,hc,ha,cond_true,Option.bind_some];rw [show au8 P t _=some v from hv];rfl⟩,rfl,fun _=>rfl⟩
 | obj id off=>
  simp only at h0
  cases hs:st.s[id]? with
  | none=>rw [hs] at h0;cases h0
  | some o=>
   cases o with
   | map es c=>rw [hs] at h0;cases h0
   | gone=>rw [hs] at h0;cases h0
   | loop _ _ _ _ _=>rw [hs] at h0;cases h0
   | box cs=>
    rw [hs] at h0
    simp only at h0
    obtain ⟨c,hc,h0⟩:=Option.bind_eq_some_iff.1 h0
    have agg:∀(v:V),au8 P t (c.map (·.1))=some v->(af4 P t=true∨c.length≠1)->(∀t2,ak8 P H f dst t (.obj id off) {st with t:=t2}=some ((v,.no),{st with t:=t2})):=by
     intro v hv hor t2
     simp only [ak8,ck,hu,hs,hc,cond_true,Option.bind_some]
     cases ha:af4 P t with
     | true=>simp only;rw [hv];rfl
     | false=>
      cases c with
      | nil=>simp only;rw [hv];rfl
      | cons x xs=>cases xs with
       | nil=>
        rcases hor with q | q
        ·rw [ha] at q;cases q
        ·simp at q
       | cons y ys=>simp only;rw [hv];rfl
    cases ha:af4 P t with
    | true=>
     rw [ha] at h0;simp only at h0
     obtain ⟨v,hv,h0⟩:=Option.map_eq_some_iff.1 h0
     injection h0 with e1 e2
     subst e1;subst e2
     exact ⟨⟨rfl,rfl,agg v hv (.inl ha)⟩,rfl,fun _=>rfl⟩
    | false=>
     cases c with
     | nil=>
      rw [ha] at h0;simp only at h0
      obtain ⟨v,hv,h0⟩:=Option.map_eq_some_iff.1 h0
      injection h0 with e1 e2
      subst e1;subst e2
      exact ⟨⟨rfl,rfl,agg v hv (.inr (by simp))⟩,rfl,fun _=>rfl⟩
     | cons x xs=>
      cases xs with
      | cons y ys=>
       rw [ha] at h0;simp only at h0
       obtain ⟨v,hv,h0⟩:=Option.map_eq_some_iff.1 h0
       injection h0 with e1 e2
       subst e1;subst e2
       exact ⟨⟨rfl,rfl,agg v hv (.inr (by simp))⟩,rfl,fun _=>rfl⟩
      | nil=>
       rw [ha] at h0;simp only at h0
       split at h0
       ·rename_i htk
        simp only [Option.some.injEq] at h0
        injection h0 with e1 e2
        subst e1;subst e2
        refine ⟨⟨rfl,rfl,fun t2=>by simp only [ak8,ck,hu,hs,hc,ha,cond_true,Option.bind_some];rw [if_pos htk]⟩,rfl,fun e=>?_⟩
        rw [e] at htk;simp at htk
       ·rename_i htk
        simp only [Option.some.injEq] at h0
        injection h0 with e1 e2
        subst e1;subst e2
        exact ⟨⟨rfl,rfl,fun t2=>by simp only [ak8,ck,hu,hs,hc,ha,cond_true,Option.bind_some];rw [if_neg htk]⟩,rfl,fun _=>rfl⟩
 | _=>cases h0
theorem storeV_t (t:TypeId)(p:V)(v:V×Tag)(st st1:St)(h:at7 P t p v st=some st1):st1.t=st.t/\st1.d=st.d/\(∀t2,at7 P t p v {st with t:=t2}=some {st1 with t:=t2})/\((∃i o,p=.loc i o)->st1.s=st.s)/\((∃i o,p=.obj i o)->st1.a=st.a):=by
 unfold at7 at h
 simp only at h
 obtain ⟨hu,h0⟩:=aa2 h
 cases p with
 | loc i off=>
  obtain ⟨box,hb,h0⟩:=Option.bind_eq_some_iff.1 h0
  obtain ⟨hf,h0⟩:=aa2 h0
  simp only [Option.some.injEq] at h0
  subst h0
  exact ⟨rfl,rfl,fun t2=>by simp only [at7,ck,hu,hb,hf,cond_true,Option.bind_some],fun _=>rfl,fun ⟨_,_,e⟩=>by cases e⟩
 | obj id off=>
  simp only at h0
  cases hs:st.s[id]? with
  | none=>rw [hs] at h0;cases h0
  | some o=>
   cases o with
   | map es c=>rw [hs] at h0;cases h0
   | gone=>rw [hs] at h0;cases h0
   | loop _ _ _ _ _=>rw [hs] at h0;cases h0
   | box old=>
    rw [hs] at h0
    simp only at h0
    obtain ⟨hf,h0⟩:=aa2 h0
    cases htg:v.2 with
    | tok g=>
     rw [htg] at h0
     simp only at h0
     split at h0
     ·rename_i hc
      simp only [Option.some.injEq] at h0
      subst h0
      exact ⟨rfl,rfl,fun t2=>by simp only [at7,ck,hu,hs,hf,htg,cond_true];rw [if_pos hc],fun ⟨_,_,e⟩=>(by cases e),fun _=>rfl⟩
     ·rename_i hc
      simp only [Option.some.injEq] at h0
      subst h0
      exact ⟨rfl,rfl,fun t2=>by simp only [at7,ck,hu,hs,hf,htg,cond_true];rw [if_neg hc],fun ⟨_,_,e⟩=>(by cases e),fun _=>rfl⟩
    | no=>
     rw [htg] at h0
     simp only [Option.some.injEq] at h0
     subst h0
     exact ⟨rfl,rfl,fun t2=>by simp only [at7,ck,hu,hs,hf,htg,cond_true],fun ⟨_,_,e⟩=>(by cases e),fun _=>rfl⟩
    | full=>
     rw [htg] at h0
     simp only [Option.some.injEq] at h0
     subst h0
     exact ⟨rfl,rfl,fun t2=>by simp only [at7,ck,hu,hs,hf,htg,cond_true],fun ⟨_,_,e⟩=>(by cases e),fun _=>rfl⟩
 | _=>cases h0
end
end Go.Proofs.YtnpjififnhjbbaaDoor.E
namespace Go.Proofs.YtnpjififnhjbbaaDoor.E
open Go
section
variable {P:Program} {H:ae2}
theorem newBox0_t (f:FuncId)(dst:Nat)(cs:List V)(st st1:St)(r:V×Tag)(h:aE8 H f dst cs st=some (r,st1)):aw9 st st1 r (aE8 H f dst cs) /\
  (H.mode f dst=1->st1.a=st.a/\st1.s=st.s)/\(H.mode f dst=2->st1.a=st.a)/\(H.mode f dst≠1->H.mode f dst≠2->st1.s=st.s):=by
 unfold aE8 at h
 obtain ⟨hg,h0⟩:=aa2 h
 clear h
 unfold aw9 aE8
 simp only [ck,hg,cond_true]
 generalize H.mode f dst=m at h0 ⊢
 have zero:∀(m:Nat),m≠1->m≠2->(ck (!cs.isEmpty)<|match st.a[H.site f dst]? with | some []=>some (((.loc (H.site f dst) 0:V),Tag.no),({st with a:=st.a.set (H.site f dst) (cs.map fun c=>(c,aV1 c))}:St)) | _=>none)=some (r,st1) ->
   (st1.t=st.t/\st1.d=st.d/\∀t2,(bif !cs.isEmpty then (match st.a[H.site f dst]? with | some []=>some (((.loc (H.site f dst) 0:V),Tag.no),({st with t:=t2,a:=st.a.set (H.site f dst) (cs.map fun c=>(c,aV1 c))}:St)) | _=>none) else none)=some (r,{st1 with t:=t2})) /\
   (m=1->st1.a=st.a/\st1.s=st.s)/\(m=2->st1.a=st.a)/\(m≠1->m≠2->st1.s=st.s):=by
  intro m m1 m2 h
  obtain ⟨hc,h⟩:=aa2 h
  rw [hc]
  split at h
  ·rename_i he
   simp only [Option.some.injEq] at h;injection h with e1 e2;subst e1;subst e2
   exact ⟨⟨rfl,rfl,fun t2=>rfl⟩,fun e=>absurd e m1,fun e=>absurd e m2,fun _ _=>rfl⟩
  ·cases h
 match m,h0 with
 | 1,h=>simp only [Option.some.injEq] at h;injection h with e1 e2;subst e1;subst e2;exact ⟨⟨rfl,rfl,fun t2=>rfl⟩,fun _=>⟨rfl,rfl⟩,fun _=>rfl,fun _ _=>rfl⟩
 | 2,h=>simp only [Option.some.injEq] at h;injection h with e1 e2;subst e1;subst e2;exact ⟨⟨rfl,rfl,fun t2=>rfl⟩,fun e=>by simp at e,fun _=>rfl,fun _ e=>absurd rfl e⟩
 | 0,h=>exact zero 0 (by simp) (by simp) h
 | n+3,h=>exact zero (n+3) (by simp) (by simp) h
theorem aX5 (f:FuncId)(dst:Nat)(cs:List V)(st st1:St)(r:V×Tag)(h:aC3 H f dst cs st=some (r,st1)):aw9 st st1 r (aC3 H f dst cs) /\
  (H.mode f dst=1->st1.a=st.a/\st1.s=st.s)/\(H.mode f dst=2->st1.a=st.a)/\(H.mode f dst≠1->H.mode f dst≠2->st1.s=st.s):=by
 unfold aC3 at h
 obtain ⟨cs',hn,h⟩:=Option.bind_eq_some_iff.1 h
 obtain ⟨⟨a1,a2,a3⟩,b⟩:=newBox0_t f dst cs' st st1 r h
 exact ⟨⟨a1,a2,fun t2=>by unfold aC3;rw [hn];exact a3 t2⟩,b⟩
theorem appendV_t (e:TypeId)(s:V×Tag)(x:V)(st st1:St)(r:V×Tag)(h:ax4 P e s x st=some (r,st1)):aw9 st st1 r (ax4 P e s x)/\st1.a=st.a/\st1.s=st.s:=by
 unfold ax4 at h
 split at h
 ·rename_i nn k es hse
  obtain ⟨xs,hxs,h⟩:=Option.bind_eq_some_iff.1 h
  obtain ⟨c1,h⟩:=aa2 h
  obtain ⟨c2,h⟩:=aa2 h
  obtain ⟨z,hz,h⟩:=Option.bind_eq_some_iff.1 h
  obtain ⟨c3,h⟩:=aa2 h
  split at h
  ·rename_i hl
   have red:∀st2:St,ax4 P e s x st2=(match s.2 with
    | .tok g=>if st2.l.contains g then some (fresh (.list (nn||!xs.isEmpty) (P.cellsOf e) (es++xs)) {st2 with l:=st2.l.filter (· !=g)}) else none
    | .full=>some (fresh (.list (nn||!xs.isEmpty) (P.cellsOf e) (es++xs)) st2)
    | .no=>bif nn then none else some (fresh (.list (!xs.isEmpty) (P.cellsOf e) (es++xs)) st2)):=by
    intro st2
    unfold ax4
    rw [hse]
    simp only [hxs,Option.bind_some,ck,c1,c2,cond_true,hz,c3,if_pos hl]
    cases s.2<;>rfl
   unfold aw9
   simp only [red]
   split at h
   ·rename_i g hg
    rw [hg]
    simp only
    split at h
    ·rename_i hc
     simp only [fresh,Option.some.injEq] at h
     injection h with e1 e2;subst e1;subst e2
     exact ⟨⟨rfl,rfl,fun t2=>by rw [if_pos hc];rfl⟩,rfl,rfl⟩
    ·cases h
   ·rename_i hg
    rw [hg]
    simp only [fresh,Option.some.injEq] at h
    injection h with e1 e2;subst e1;subst e2
    exact ⟨⟨rfl,rfl,fun t2=>rfl⟩,rfl,rfl⟩
   ·rename_i hg
    rw [hg]
    simp only
    cases nn with
    | true=>simp at h
    | false=>
     simp only [cond_false,fresh,Option.some.injEq] at h
     injection h with e1 e2;subst e1;subst e2
     exact ⟨⟨rfl,rfl,fun t2=>rfl⟩,rfl,rfl⟩
  ·cases h
 ·cases h
theorem heldS_s {st st2:St}(h:st2.s=st.s)(id off k n:Nat):aT9 st2 id off k n=aT9 st id off k n:=by unfold aT9;rw [h]
theorem srcS_s {st st2:St}(h:st2.s=st.s)(K:Nat)(v:V):srcS st2 K v=srcS st K v:=by
 unfold srcS
 split
 ·rw [heldS_s h]
 ·rfl
theorem bt1 (st:St)(tt:List (V×Tag))(K:Nat)(v:V):srcS {st with t:=tt} K v=srcS st K v:=srcS_s rfl _ _
theorem newS_t (e:TypeId)(nn:Bool)(k:Nat)(x:V)(st st1:St)(r:V×Tag)(h:newS P e nn k x st=some (r,st1)):aw9 st st1 r (newS P e nn k x)/\st1.a=st.a:=by
 unfold newS at h
 obtain ⟨xs,hxs,h⟩:=Option.bind_eq_some_iff.1 h
 obtain ⟨c1,h⟩:=aa2 h
 obtain ⟨z,hz,h⟩:=Option.bind_eq_some_iff.1 h
 obtain ⟨c2,h⟩:=aa2 h
 have red:∀tt,newS P e nn k x {st with t:=tt}=(match xs with
  | []=>some ((.list nn k [],.no),{st with t:=tt})
  | xs=>ck (Nat.ble (xs.length*P.bytesOf e) 140737488355328&&Nat.ble xs.length 140737488355328) <|
   some ((V.slo st.s.length 0 (P.cellsOf e) xs.length xs.length,Tag.no),{st with t:=tt,s:=st.s++[.box ((xs.flatMap V.cells).map fun c=>(c,nilB c))]})):=by
  intro tt
  unfold newS
  refine (congrArg (Option.bind · _) ((bt1 st tt _ _).trans hxs)).trans ?_
  simp only [Option.bind_some,ck,c1,c2,cond_true,hz]
  cases xs<;>rfl
 unfold aw9
 simp only [red]
 split at h
 ·simp only [Option.some.injEq] at h
  injection h with e1 e2;subst e1;subst e2
  exact ⟨⟨rfl,rfl,fun _=>rfl⟩,rfl⟩
 ·rename_i hne
  obtain ⟨c3,h⟩:=aa2 h
  simp only [Option.some.injEq] at h
  injection h with e1 e2;subst e1;subst e2
  refine ⟨⟨rfl,rfl,fun tt=>?_⟩,rfl⟩
  cases xs with
  | nil=>exact absurd rfl hne
  | cons y ys=>simp only [ck,c3,cond_true]
theorem roomS_t (e:TypeId)(id off k n c:Nat)(x:V)(st st1:St)(r:V×Tag)(h:aN5 P e id off k n c x st=some (r,st1)):aw9 st st1 r (aN5 P e id off k n c x)/\st1.a=st.a:=by
 unfold aN5 at h
 obtain ⟨xs,hxs,h⟩:=Option.bind_eq_some_iff.1 h
 split at h
 ·rename_i cs hb
  obtain ⟨c1,h⟩:=aa2 h
  simp only [Option.some.injEq] at h
  injection h with e1 e2;subst e1;subst e2
  refine ⟨⟨rfl,rfl,fun tt=>?_⟩,rfl⟩
  unfold aN5
  rw [bt1,hxs]
  simp only [Option.bind_some,hb,ck,c1,cond_true]
 ·cases h
theorem roomS_n (e:TypeId)(id off k n c:Nat)(x:V)(st:St)(tt:List (V×Tag))(h:aN5 P e id off k n c x st=none):aN5 P e id off k n c x {st with t:=tt}=none:=by
 unfold aN5 at h ⊢
 rw [bt1]
 cases hx:srcS st (P.cellsOf e) x with
 | none=>rfl
 | some xs=>
  rw [hx] at h
  simp only [Option.bind_some] at h ⊢
  split at h
  ·unfold ck at h ⊢
   generalize (Nat.blt 0 (P.cellsOf e)&&_&&_&&_)=q at h ⊢
   cases q with
   | true=>cases h
   | false=>rfl
  ·rfl
theorem heldS_t (st:St)(tt:List (V×Tag))(id off k n:Nat):aT9 {st with t:=tt} id off k n=aT9 st id off k n:=rfl
theorem growS_t (e:TypeId)(id off k n:Nat)(x:V)(st st1:St)(r:V×Tag)(h:bb8 P e id off k n x st=some (r,st1)):aw9 st st1 r (bb8 P e id off k n x)/\st1.a=st.a:=by
 unfold bb8 at h
 obtain ⟨xs,hxs,h⟩:=Option.bind_eq_some_iff.1 h
 obtain ⟨es,hes,h⟩:=Option.bind_eq_some_iff.1 h
 have q:=aa2 h
 clear h
 obtain ⟨c1,h⟩:=q
 obtain ⟨z,hz,h⟩:=Option.bind_eq_some_iff.1 h
 have q:=aa2 h
 clear h
 obtain ⟨c2,h⟩:=q
 simp only [Option.some.injEq] at h
 injection h with e1 e2;subst e1;subst e2
 refine ⟨⟨rfl,rfl,fun tt=>?_⟩,rfl⟩
 unfold bb8
 rw [bt1,hxs]
 simp only [Option.bind_some,heldS_t,hes,ck,c1,c2,cond_true,hz]
theorem bB2 (tk:Bool)(e:TypeId)(s:V×Tag)(x:V)(st st1:St)(r:V×Tag)(h:aA4 P tk e s x st=some (r,st1)):aw9 st st1 r (aA4 P tk e s x)/\st1.a=st.a/\(tk=false->st1.s=st.s):=by
 cases tk with
 | false=>obtain ⟨a1,a2,a3⟩:=appendV_t e s x st st1 r h;exact ⟨a1,a2,fun _=>a3⟩
 | true=>
  refine (fun (q:aw9 st st1 r (aA4 P true e s x)/\st1.a=st.a)=>⟨q.1,q.2,fun z=>by cases z⟩) ?_
  unfold aA4 at h
  unfold aA4
  simp only [cond_true] at h ⊢
  split at h
  ·rename_i id off k n c tg
   unfold orElse at h
   split at h
   ·rename_i q hq
    simp only [Option.some.injEq] at h
    subst h
    obtain ⟨⟨a1,a2,a3⟩,a4⟩:=roomS_t e id off k n c x st st1 r hq
    exact ⟨⟨a1,a2,fun tt=>by simp only [a3 tt,orElse]⟩,a4⟩
   ·rename_i hq
    obtain ⟨⟨a1,a2,a3⟩,a4⟩:=growS_t e id off k n x st st1 r h
    exact ⟨⟨a1,a2,fun tt=>by simp only [roomS_n e id off k n c x st tt hq,orElse,a3 tt]⟩,a4⟩
  ·exact newS_t e _ _ x st st1 r h
  ·exact newS_t e _ _ x st st1 r h
  ·cases h
theorem clearV_t (e:TypeId)(v:V)(st st1:St)(r:V×Tag)(h:aH2 P e v st=some (r,st1)):aw9 st st1 r (aH2 P e v)/\st1.a=st.a:=by
 unfold aH2 at h
 split at h
 ·obtain ⟨z,hz,h⟩:=Option.bind_eq_some_iff.1 h
  split at h
  ·rename_i cs hb
   obtain ⟨c1,h⟩:=aa2 h
   simp only [Option.some.injEq] at h
   injection h with e1 e2;subst e1;subst e2
   refine ⟨⟨rfl,rfl,fun tt=>?_⟩,rfl⟩
   simp only [aH2,hz,Option.bind_some,hb,ck,c1,cond_true]
  ·cases h
 ·cases h
theorem aK4 {st st2:St}(h:st2.s=st.s)(v:V):mapOf st2 v=mapOf st v:=by unfold mapOf;rw [h]
theorem aw3 {st st2:St}(h:st2.s=st.s)(t:TypeId)(v:V):lenV P st2 t v=lenV P st t v:=by
 unfold lenV
 split<;>first | rfl | rw [aK4 h]
theorem lenV_look {t:TypeId}(hd:match P.underlying t with | some .string | some (.slice _) | some (.array _ _) | some (.pointer _)=>True | _=>False)(st st2:St)(v:V):lenV P st2 t v=lenV P st t v:=by
 unfold lenV
 generalize P.underlying t=u at hd ⊢
 match u,hd with
 | some .string,_=>cases v<;>rfl
 | some (.slice _),_=>cases v<;>rfl
 | some (.array _ _),_=>rfl
 | some (.pointer _),_=>rfl
theorem br1 (tk:Bool)(b:Builtin)(ts:Array TypeId)(args:List (V×Tag))(st st1:St)(r:V×Tag)(h:aj4 P tk b ts args st=some (r,st1)):aw9 st st1 r (aj4 P tk b ts args)/\st1.a=st.a/\((match b with | .append=>tk | .clear=>true | _=>false)=false->st1.s=st.s):=by
 unfold aj4 at h
 split at h
 ·rename_i x
  obtain ⟨t,ht,h⟩:=Option.bind_eq_some_iff.1 h
  obtain ⟨v,hv,h⟩:=Option.map_eq_some_iff.1 h
  injection h with e1 e2;subst e1;subst e2
  exact ⟨⟨rfl,rfl,fun t2=>by simp only [aj4,ht,Option.bind_some];rw [aw3 (P:=P) (st:=st) (st2:={st with t:=t2}) rfl,hv];rfl⟩,rfl,fun _=>rfl⟩
 ·rename_i s x
  obtain ⟨t,ht,h⟩:=Option.bind_eq_some_iff.1 h
  obtain ⟨t2,ht2,h⟩:=Option.bind_eq_some_iff.1 h
  split at h
  ·rename_i e e2 q1 q2
   obtain ⟨⟨a1,a2,a3⟩,a4,a5⟩:=bB2 _ _ _ _ _ _ _ h
   exact ⟨⟨a1,a2,fun tt=>by simp only [aj4,ht,ht2,Option.bind_some,q1,q2];exact a3 tt⟩,a4,a5⟩
  ·rename_i e q1 q2
   obtain ⟨⟨a1,a2,a3⟩,a4,a5⟩:=bB2 _ _ _ _ _ _ _ h
   exact ⟨⟨a1,a2,fun tt=>by simp only [aj4,ht,ht2,Option.bind_some,q1,q2];exact a3 tt⟩,a4,a5⟩
  ·cases h
 ·rename_i s
  obtain ⟨t,ht,h⟩:=Option.bind_eq_some_iff.1 h
  split at h
  ·rename_i e q1
   obtain ⟨⟨a1,a2,a3⟩,a4⟩:=clearV_t _ _ _ _ _ h
   exact ⟨⟨a1,a2,fun tt=>by simp only [aj4,ht,Option.bind_some,q1];exact a3 tt⟩,a4,fun z=>by cases z⟩
  ·cases h
 ·obtain ⟨v,hv,h⟩:=Option.map_eq_some_iff.1 h
  injection h with e1 e2;subst e1;subst e2
  exact ⟨⟨rfl,rfl,fun t2=>by simp only [aj4,hv];rfl⟩,rfl,fun _=>rfl⟩
 ·obtain ⟨v,hv,h⟩:=Option.map_eq_some_iff.1 h
  injection h with e1 e2;subst e1;subst e2
  exact ⟨⟨rfl,rfl,fun t2=>by simp only [aj4,hv];rfl⟩,rfl,fun _=>rfl⟩
 ·cases h
end
end Go.Proofs.YtnpjififnhjbbaaDoor.E
namespace Go.Proofs.YtnpjififnhjbbaaDoor.E
open Go
section
variable {P:Program} {H:ae2}
theorem mapEntV_t {st st1:St}{t:TypeId}{m k:V}{r:V×Tag}(h:aC6 P st t m k=some (r,st1)):st1.t=st.t/\st1.d=st.d/\∀t2,aC6 P {st with t:=t2} t m k=some (r,{st1 with t:=t2}):=by
 unfold aC6 at h
 split at h
 ·rename_i kt e id hu
  obtain ⟨c1,h⟩:=aa2 h
  obtain ⟨es,h1,h⟩:=Option.bind_eq_some_iff.1 h
  obtain ⟨z,h2,h⟩:=Option.bind_eq_some_iff.1 h
  obtain ⟨c2,h⟩:=aa2 h
  obtain ⟨f0,h3,h⟩:=Option.bind_eq_some_iff.1 h
  obtain ⟨es',h4,h⟩:=Option.bind_eq_some_iff.1 h
  obtain ⟨i,h5,h⟩:=Option.map_eq_some_iff.1 h
  injection h with e1 e2;subst e1;subst e2
  refine ⟨rfl,rfl,fun t2=>?_⟩
  unfold aC6
  rw [hu]
  simp only [aK4 (st:=st) (st2:={st with t:=t2}) rfl]
  simp only [ck,c1,cond_true,h1,Option.bind_some,h2,c2,h3,h4,h5,Option.map_some]
 ·cases h
theorem entSetV_t {st st1:St}{m s x:V}{r:V×Tag}(h:aD2 st m s x=some (r,st1)):st1.t=st.t/\st1.d=st.d/\∀t2,aD2 {st with t:=t2} m s x=some (r,{st1 with t:=t2}):=by
 unfold aD2 at h
 split at h
 ·obtain ⟨c1,h⟩:=aa2 h
  obtain ⟨es,h1,h⟩:=Option.bind_eq_some_iff.1 h
  obtain ⟨c2,h⟩:=aa2 h
  obtain ⟨kv,h3,h⟩:=Option.map_eq_some_iff.1 h
  injection h with e1 e2;subst e1;subst e2
  refine ⟨rfl,rfl,fun t2=>?_⟩
  unfold aD2
  simp only [aK4 (st:=st) (st2:={st with t:=t2}) rfl]
  simp only [ck,c2,cond_true,h1,Option.bind_some,h3,Option.map_some]
  exact (congrArg (fun b=>(bif b then _ else _:Option ((V×Tag)×St))) c1).trans rfl
 ·cases h
theorem opV_t (f:FuncId)(dst:Nat)(op:Op)(st st1:St)(r:V×Tag)(h:opV P H f dst op st=some (r,st1)):
  st1.t=st.t/\st1.d=st.d/\∀t2,(∀x∈op.operands,ev H {st with t:=t2} x=ev H st x)->opV P H f dst op {st with t:=t2}=some (r,{st1 with t:=t2}):=by
 cases op with
 | move x=>simp only [opV,Option.some.injEq] at h;injection h with e1 e2;subst e1;subst e2;exact ⟨rfl,rfl,fun t2 hev=>by simp only [opV];rw [hev x (by simp [Op.operands])]⟩
 | assign x=>simp only [opV,Option.some.injEq] at h;injection h with e1 e2;subst e1;subst e2;exact ⟨rfl,rfl,fun t2 hev=>by simp only [opV];rw [hev x (by simp [Op.operands])]⟩
 | pick c x y=>
  have key:∀st:St,opV P H f dst (.pick c x y) st=(match (ev H st c).1 with
   | .bool c=>match ev H st x,ev H st y with
    | (.bool x,_),(.bool y,_)=>some (V.bool (bif c then x else y),Tag.no)
    | x,y=>some (bif c then x else y)
   | _=>none).map fun r=>(r,st):=by
   intro st
   simp only [opV]
   cases (ev H st c).1<;>try rfl
   simp only
   obtain ⟨a,b⟩:=ev H st x
   obtain ⟨c,d⟩:=ev H st y
   cases a<;>cases c<;>rfl
  rw [key] at h
  obtain ⟨q,hq,h⟩:=Option.map_eq_some_iff.1 h
  injection h with e1 e2;subst e1;subst e2
  refine ⟨rfl,rfl,fun t2 hev=>?_⟩
  rw [key,hev c (by simp [Op.operands]),hev x (by simp [Op.operands]),hev y (by simp [Op.operands]),hq]
  rfl
 | alloc t=>
  simp only [opV] at h
  obtain ⟨z,hz,h⟩:=Option.bind_eq_some_iff.1 h
  obtain ⟨⟨a1,a2,a3⟩,_⟩:=aX5 _ _ _ _ _ _ h
  exact ⟨a1,a2,fun t2 hev=>by simp only [opV,hz,Option.bind_some];exact a3 t2⟩
 | box t x=>
  simp only [opV] at h
  obtain ⟨⟨a1,a2,a3⟩,_⟩:=aX5 _ _ _ _ _ _ h
  exact ⟨a1,a2,fun t2 hev=>by simp only [opV];rw [hev x (by simp [Op.operands])];exact a3 t2⟩
 | build t parts=>
  simp only [opV] at h
  obtain ⟨v,hv,h⟩:=Option.map_eq_some_iff.1 h
  injection h with e1 e2;subst e1;subst e2
  exact ⟨rfl,rfl,fun t2 hev=>by simp only [opV];rw [be8 (fun x hx=>hev x (by simpa [Op.operands] using hx)),hv];rfl⟩
 | buildSlice t n parts=>
  simp only [opV] at h ⊢
  split at h
  ·rename_i e he
   obtain ⟨z,hz,h⟩:=Option.bind_eq_some_iff.1 h
   obtain ⟨c1,h⟩:=aa2 h
   obtain ⟨es,hes,h⟩:=Option.map_eq_some_iff.1 h
   unfold mkS at h ⊢
   cases htk:H.take f dst with
   | false=>
    rw [htk] at h
    injection h with e1 e2;subst e1;subst e2
    exact ⟨rfl,rfl,fun t2 hev=>by simp only [hz,Option.bind_some,ck,c1,cond_true];rw [be8 (fun x hx=>hev x (by simpa [Op.operands] using hx)),hes];rfl⟩
   | true=>
    rw [htk] at h
    injection h with e1 e2;subst e1;subst e2
    exact ⟨rfl,rfl,fun t2 hev=>by simp only [hz,Option.bind_some,ck,c1,cond_true];rw [be8 (fun x hx=>hev x (by simpa [Op.operands] using hx)),hes];rfl⟩
  ·cases h
 | load t p=>
  simp only [opV] at h
  obtain ⟨⟨a1,a2,a3⟩,_⟩:=bx0 _ _ _ _ _ _ _ h
  exact ⟨a1,a2,fun t2 hev=>by simp only [opV];rw [hev p (by simp [Op.operands])];exact a3 t2⟩
 | store t p x=>
  simp only [opV] at h
  obtain ⟨s1,hs,h⟩:=Option.map_eq_some_iff.1 h
  injection h with e1 e2;subst e1;subst e2
  obtain ⟨a1,a2,a3,_⟩:=storeV_t _ _ _ _ _ hs
  exact ⟨a1,a2,fun t2 hev=>by simp only [opV];rw [hev p (by simp [Op.operands]),hev x (by simp [Op.operands]),a3 t2];rfl⟩
 | nilCheck x=>
  have key:∀st:St,opV P H f dst (.nilCheck x) st=(match (ev H st x).1 with | .obj i o=>some (V.obj i o) | .loc i o=>some (.loc i o) | .ref cs=>some (.ref cs) | _=>none).map fun v=>((v,.no),st):=by
   intro st;simp only [opV];cases (ev H st x).1<;>rfl
  rw [key] at h
  obtain ⟨q,hq,h⟩:=Option.map_eq_some_iff.1 h
  injection h with e1 e2;subst e1;subst e2
  exact ⟨rfl,rfl,fun t2 hev=>by rw [key,hev x (by simp [Op.operands]),hq];rfl⟩
 | binOp op t x y t'=>
  simp only [opV] at h
  split at h
  ·rename_i v hv
   simp only [Option.some.injEq] at h
   injection h with e1 e2;subst e1;subst e2
   exact ⟨rfl,rfl,fun t2 hev=>by simp only [opV];rw [hev x (by simp [Op.operands]),hev y (by simp [Op.operands]),hv]⟩
  ·rename_i hn
   obtain ⟨v,hv,h⟩:=Option.map_eq_some_iff.1 h
   injection h with e1 e2;subst e1;subst e2
   exact ⟨rfl,rfl,fun t2 hev=>by simp only [opV];rw [hev x (by simp [Op.operands]),hev y (by simp [Op.operands]),hn,hv];rfl⟩
 | unOp op t x=>
  simp only [opV] at h
  obtain ⟨v,hv,h⟩:=Option.map_eq_some_iff.1 h
  injection h with e1 e2;subst e1;subst e2
  exact ⟨rfl,rfl,fun t2 hev=>by simp only [opV];rw [hev x (by simp [Op.operands]),hv];rfl⟩
 | convert s d x=>
  simp only [opV] at h
  obtain ⟨v,hv,h⟩:=Option.map_eq_some_iff.1 h
  injection h with e1 e2;subst e1;subst e2
  exact ⟨rfl,rfl,fun t2 hev=>by simp only [opV];rw [hev x (by simp [Op.operands]),hv];rfl⟩
 | makeInterface t x=>
  have key:∃F:V->Option V,∀st:St,opV P H f dst (.makeInterface t x) st=(F (ev H st x).1).map fun v=>((v,.no),st):=by
   refine ⟨fun u=>match P.underlying t,u with | some (.interface _),_ | none,_ | _,.undef | _,.loc _ _ | _,.tup _=>none | _,v=>some (.iface t v),fun st=>?_⟩
   simp only [opV]
   cases P.underlying t with
   | none=>rfl
   | some d=>cases d<;>cases (ev H st x).1<;>rfl
  obtain ⟨F,key⟩:=key
  rw [key] at h
  obtain ⟨q,hq,h⟩:=Option.map_eq_some_iff.1 h
  injection h with e1 e2;subst e1;subst e2
  exact ⟨rfl,rfl,fun t2 hev=>by rw [key,hev x (by simp [Op.operands]),hq];rfl⟩
 | makeFunc fn first cap=>
  simp only [opV] at h
  obtain ⟨c1,h⟩:=aa2 h
  simp only [Option.some.injEq] at h
  injection h with e1 e2;subst e1;subst e2
  refine ⟨rfl,rfl,fun t2 hev=>?_⟩
  simp only [opV]
  rw [evs_t (l:=first.toList) (fun x hx=>hev x (by simp [Op.operands];exact .inl (by simpa using hx))),evs_t (l:=cap.toList) (fun x hx=>hev x (by simp [Op.operands];exact .inr (by simpa using hx)))]
  simp only [ck,c1,cond_true]
 | makeMap t n=>
  cases n with
  | some _=>cases h
  | none=>
   simp only [opV,Option.some.injEq] at h
   injection h with e1 e2;subst e1;subst e2
   exact ⟨rfl,rfl,fun t2 hev=>rfl⟩
 | makeSlice t l c=>
  simp only [opV] at h
  split at h
  ·rename_i e he
   obtain ⟨l',hl,h⟩:=Option.bind_eq_some_iff.1 h
   obtain ⟨c',hc,h⟩:=Option.bind_eq_some_iff.1 h
   obtain ⟨z,hz,h⟩:=Option.bind_eq_some_iff.1 h
   obtain ⟨c1,h⟩:=aa2 h
   split at h
   ·rename_i hb
    simp only [fresh,Option.some.injEq] at h
    injection h with e1 e2;subst e1;subst e2
    refine ⟨rfl,rfl,fun t2 hev=>?_⟩
    simp only [opV,he]
    rw [hev l (by simp [Op.operands]),hev c (by simp [Op.operands])]
    simp only [hl,hc,hz,Option.bind_some,ck,c1,cond_true,if_pos hb,fresh]
   ·cases h
  ·cases h
 | slice t x lo hi mx=>
  have key:∃F:V×Tag->Option V->Option V->Option V->Option (V×Tag),∀st:St,opV P H f dst (.slice t x lo hi mx) st=(F (ev H st x) (lo.map fun o=>(ev H st o).1) (hi.map fun o=>(ev H st o).1) (mx.map fun o=>(ev H st o).1)).map fun v=>(v,st):=by
   refine ⟨fun u lo hi mx=>match P.underlying t,u with
    | some .string,(.str s,_)=>match mx with | none=>(aZ9 s lo hi).map fun v=>(v,.no) | _=>none
    | some (.slice e),(.list nn k es,tag)=>ck ((k==P.cellsOf e||!nn)&&(P.info? e).isSome) (aM7 nn k es (bif H.take f dst then .no else tag) lo hi mx)
    | some (.slice e),(.slo id off k n c,_)=>ck (k==P.cellsOf e&&(P.info? e).isSome) (sloL id off k n c lo hi mx)
    | _,_=>none,fun st=>?_⟩
   simp only [opV]
   obtain ⟨u,tag⟩:=ev H st x
   cases P.underlying t with
   | none=>rfl
   | some d=>
    cases d<;>cases u<;>try rfl
    ·cases mx with
     | none=>simp only [Option.map_none];rw [Option.map_map];rfl
     | some m=>rfl
    ·simp only [ck];rename_i nn k es;rename_i e;cases ((k==P.cellsOf e||!nn)&&(P.info? e).isSome)<;>rfl
    ·simp only [ck];rename_i id off k n c;rename_i e;cases (k==P.cellsOf e&&(P.info? e).isSome)<;>rfl
  obtain ⟨F,key⟩:=key
  rw [key] at h
  obtain ⟨q,hq,h⟩:=Option.map_eq_some_iff.1 h
  injection h with e1 e2;subst e1;subst e2
  refine ⟨rfl,rfl,fun t2 hev=>?_⟩
  rw [key,hev x (by simp [Op.operands]),opt_t (o:=lo) (fun y hy=>hev y (by simp [Op.operands];simp at hy;exact .inr (.inl hy))),opt_t (o:=hi) (fun y hy=>hev y (by simp [Op.operands];simp at hy;exact .inr (.inr (.inl hy)))),opt_t (o:=mx) (fun y hy=>hev y (by simp [Op.operands];simp at hy;exact .inr (.inr (.inr hy)))),hq]
  rfl
 | fieldAddr s x i=>
  simp only [opV] at h
  obtain ⟨o,ho,h⟩:=Option.bind_eq_some_iff.1 h
  obtain ⟨c1,h⟩:=aa2 h
  have key:∀st:St,opV P H f dst (.fieldAddr s x i) st=(match (ev H st x).1 with | .ref cs=>some (V.ref (cs.drop o.1)) | .loc j p=>some (V.loc j (p+o.1)) | .obj j p=>some (V.obj j (p+o.1)) | _=>none).map fun (v:V)=>((v,Tag.no),st):=by
   intro st
   simp only [opV,ho,Option.bind_some,ck,c1,cond_true]
   cases (ev H st x).1<;>rfl
  have h2:opV P H f dst (.fieldAddr s x i) st=some (r,st1):=by simp only [opV,ho,Option.bind_some,ck,c1,cond_true];exact h
  rw [key] at h2
  obtain ⟨q,hq,h⟩:=Option.map_eq_some_iff.1 h2
  injection h with e1 e2;subst e1;subst e2
  exact ⟨rfl,rfl,fun t2 hev=>by rw [key,hev x (by simp [Op.operands]),hq];rfl⟩
 | field s x i=>
  simp only [opV] at h
  obtain ⟨o,ho,h⟩:=Option.bind_eq_some_iff.1 h
  have key:∀st:St,opV P H f dst (.field s x i) st=(match (ev H st x).1 with | .agg cs=>au8 P o.2 ((cs.drop o.1).take (P.cellsOf o.2)) | _=>none).map fun (v:V)=>((v,Tag.no),st):=by
   intro st
   simp only [opV,ho,Option.bind_some]
   cases (ev H st x).1<;>rfl
  have h2:opV P H f dst (.field s x i) st=some (r,st1):=by simp only [opV,ho,Option.bind_some];exact h
  rw [key] at h2
  obtain ⟨q,hq,h⟩:=Option.map_eq_some_iff.1 h2
  injection h with e1 e2;subst e1;subst e2
  exact ⟨rfl,rfl,fun t2 hev=>by rw [key,hev x (by simp [Op.operands]),hq];rfl⟩
 | indexAddr t x i=>
  simp only [opV] at h
  obtain ⟨v,hv,h⟩:=Option.map_eq_some_iff.1 h
  injection h with e1 e2;subst e1;subst e2
  exact ⟨rfl,rfl,fun t2 hev=>by simp only [opV];rw [hev x (by simp [Op.operands]),hev i (by simp [Op.operands]),hv];rfl⟩
 | index t x i=>
  simp only [opV] at h
  obtain ⟨v,hv,h⟩:=Option.map_eq_some_iff.1 h
  injection h with e1 e2;subst e1;subst e2
  exact ⟨rfl,rfl,fun t2 hev=>by simp only [opV];rw [hev x (by simp [Op.operands]),hev i (by simp [Op.operands]),hv];rfl⟩
 | lookup t m k ok=>
  simp only [opV] at h
  split at h
  ·rename_i kt e he
   obtain ⟨c1,h⟩:=aa2 h
   obtain ⟨es,h1,h⟩:=Option.bind_eq_some_iff.1 h
   obtain ⟨q,h2,h⟩:=Option.bind_eq_some_iff.1 h
   obtain ⟨z,h3,h⟩:=Option.bind_eq_some_iff.1 h
   obtain ⟨c2,h⟩:=aa2 h
   simp only [Option.some.injEq] at h
   injection h with e1 e2;subst e1;subst e2
   refine ⟨rfl,rfl,fun t2 hev=>?_⟩
   simp only [opV,he]
   rw [hev m (by simp [Op.operands]),hev k (by simp [Op.operands]),aK4 (st:=st) (st2:={st with t:=t2}) rfl]
   simp only [ck,c1,h1,h2,h3,c2,cond_true,Option.bind_some]
  ·cases h
 | mapEntry t m k=>
  simp only [opV] at h ⊢
  obtain ⟨a1,a2,a3⟩:=mapEntV_t h
  exact ⟨a1,a2,fun t2 hev=>by rw [hev m (by simp [Op.operands]),hev k (by simp [Op.operands])];exact a3 t2⟩
 | entryStore t m s x=>
  simp only [opV] at h ⊢
  obtain ⟨a1,a2,a3⟩:=entSetV_t h
  exact ⟨a1,a2,fun t2 hev=>by rw [hev m (by simp [Op.operands]),hev s (by simp [Op.operands]),hev x (by simp [Op.operands])];exact a3 t2⟩
 | mapUpdate t m k x=>
  simp only [opV] at h
  split at h
  ·rename_i kt e id he hm
   obtain ⟨c1,h⟩:=aa2 h
   obtain ⟨es,h1,h⟩:=Option.bind_eq_some_iff.1 h
   obtain ⟨es',h2,h⟩:=Option.map_eq_some_iff.1 h
   injection h with e1 e2;subst e1;subst e2
   refine ⟨rfl,rfl,fun t2 hev=>?_⟩
   simp only [opV]
   rw [hev m (by simp [Op.operands]),hev k (by simp [Op.operands]),hev x (by simp [Op.operands]),he,hm]
   simp only [aK4 (st:=st) (st2:={st with t:=t2}) rfl]
   simp only [ck,c1,cond_true,h1,Option.bind_some,h2,Option.map_some]
  ·cases h
 | insert t m k x=>
  simp only [opV] at h
  split at h
  ·rename_i kt e id he hm
   obtain ⟨c1,h⟩:=aa2 h
   obtain ⟨es,h1,h⟩:=Option.bind_eq_some_iff.1 h
   obtain ⟨es',h2,h⟩:=Option.map_eq_some_iff.1 h
   injection h with e1 e2;subst e1;subst e2
   refine ⟨rfl,rfl,fun t2 hev=>?_⟩
   simp only [opV]
   rw [hev m (by simp [Op.operands]),hev k (by simp [Op.operands]),hev x (by simp [Op.operands]),he,hm]
   simp only [aK4 (st:=st) (st2:={st with t:=t2}) rfl]
   simp only [ck,c1,cond_true,h1,Option.bind_some,h2,Option.map_some]
  ·cases h
 | typeAssert x xt t ok=>
  have key:∃F:V->Option V,∀st:St,opV P H f dst (.typeAssert x xt t ok) st=(F (ev H st x).1).map fun v=>((v,.no),st):=by
   refine ⟨fun u=>match P.underlying t,u with
    | some (.interface _),_ | none,_=>none
    | _,.iface t' v=>if t'=t then some (if ok then .tup [v,.bool true] else v) else if ok then (zeroV P t).bind fun z=>ck (as6 z) (some (.tup [z,.bool false])) else none
    | _,.nilif=>if ok then (zeroV P t).bind fun z=>ck (as6 z) (some (.tup [z,.bool false])) else none
    | _,_=>none,fun st=>?_⟩
   simp only [opV]
   have hz:∀(c:V->Bool),((zeroV P t).bind fun z=>ck (as6 z) (some (((V.tup [z,.bool false]:V),Tag.no),st)))=((zeroV P t).bind fun z=>ck (as6 z) (some (V.tup [z,.bool false]))).map fun v=>((v,Tag.no),st):=by
    intro _
    cases zeroV P t with
    | none=>rfl
    | some z=>simp only [Option.bind_some,ck];cases as6 z<;>rfl
   cases P.underlying t with
   | none=>rfl
   | some d=>
    cases d<;>cases (ev H st x).1<;>try rfl
    all_goals first
     | (
       simp only;split
       ·rfl
       ·split
        ·exact hz (fun _=>true)
        ·rfl)
     | (
       simp only;split
       ·exact hz (fun _=>true)
       ·rfl)
  obtain ⟨F,key⟩:=key
  rw [key] at h
  obtain ⟨q,hq,h⟩:=Option.map_eq_some_iff.1 h
  injection h with e1 e2;subst e1;subst e2
  exact ⟨rfl,rfl,fun t2 hev=>by rw [key,hev x (by simp [Op.operands]),hq];rfl⟩
 | extract t i=>
  have key:∀st:St,opV P H f dst (.extract t i) st=(match (ev H st t).1 with | .tup vs=>vs[i]? | _=>none).map fun (v:V)=>((v,Tag.no),st):=by
   intro st;simp only [opV];cases (ev H st t).1<;>rfl
  rw [key] at h
  obtain ⟨q,hq,h⟩:=Option.map_eq_some_iff.1 h
  injection h with e1 e2;subst e1;subst e2
  exact ⟨rfl,rfl,fun t2 hev=>by rw [key,hev t (by simp [Op.operands]),hq];rfl⟩
 | call c=>
  simp only [opV] at h
  split at h
  ·rename_i b hb
   obtain ⟨⟨a1,a2,a3⟩,_⟩:=br1 _ _ _ _ _ _ _ h
   refine ⟨a1,a2,fun t2 hev=>?_⟩
   simp only [opV,hb]
   rw [List.map_congr_left (g:=ev H st) (fun x hx=>hev x (by simp [Op.operands,Call.operands,hb];simpa using hx))]
   exact a3 t2
  ·cases h
 | _=>simp [opV] at h
end
end Go.Proofs.YtnpjififnhjbbaaDoor.E
namespace Go.Proofs.YtnpjififnhjbbaaDoor.E
open Go
section
variable {P:Program} {H:ae2}
theorem ptr_kind {f:FuncId}{st:St}{p:Operand}(h:be6 H f st p=true):(an2 H f p=1->(∃cs,(ev H st p).1=.ref cs)∨(ev H st p).1=.undef)/\(an2 H f p=2->∃i o,(ev H st p).1=.loc i o)/\(an2 H f p=3->∃i o,(ev H st p).1=.obj i o):=by
 cases p with
 | tmp t=>
  simp only [be6,an2,ev] at h ⊢
  generalize (st.t.getD t (.undef,.no)).1=v at h ⊢
  generalize H.kind f t=k at h ⊢
  refine ⟨fun e=>?_,fun e=>?_,fun e=>?_⟩<;>subst e<;>cases v<;>simp at h ⊢
 | global g=>
  simp only [an2,ev]
  refine ⟨fun _=>?_,fun e=>by simp at e,fun e=>by simp at e⟩
  cases H.glob g with
  | none=>exact .inr rfl
  | some cs=>exact .inl ⟨cs,rfl⟩
 | const v=>exact ⟨fun e=>by simp [an2] at e,fun e=>by simp [an2] at e,fun e=>by simp [an2] at e⟩
 | func g=>exact ⟨fun e=>by simp [an2] at e,fun e=>by simp [an2] at e,fun e=>by simp [an2] at e⟩
theorem opV_turn (f:FuncId)(o:Oper)(st st1:St)(r:V×Tag)(ha:aw8 H f st o.op=true)(h:opV P H f (o.dst.getD 0) o.op st=some (r,st1)):
  ((turns H f o).1=false->st1.a=st.a)/\((turns H f o).2=false->st1.s=st.s):=by
 cases hop:o.op with
 | load t p=>
  rw [hop] at h ha
  simp only [opV] at h
  have:=(bx0 _ _ _ _ _ _ _ h).2
  simp only [turns,hop]
  exact ⟨fun _=>this.1,fun e=>by simp at e⟩
 | store t p x=>
  rw [hop] at h ha
  simp only [opV] at h
  obtain ⟨s1,hs,h⟩:=Option.map_eq_some_iff.1 h
  injection h with e1 e2;subst e1;subst e2
  obtain ⟨a1,a2,a3,a4,a5⟩:=storeV_t _ _ _ _ _ hs
  obtain ⟨_,k2,k3⟩:=ptr_kind (p:=p) ha
  simp only [turns,hop]
  generalize an2 H f p=k at k2 k3 ⊢
  match k,k2,k3 with
  | 2,k2,_=>exact ⟨fun e=>by simp at e,fun _=>a4 (k2 rfl)⟩
  | 3,_,k3=>exact ⟨fun _=>a5 (k3 rfl),fun e=>by simp at e⟩
  | 0,_,_=>exact ⟨fun e=>by simp at e,fun e=>by simp at e⟩
  | 1,_,_=>exact ⟨fun e=>by simp at e,fun e=>by simp at e⟩
  | n+4,_,_=>exact ⟨fun e=>by simp at e,fun e=>by simp at e⟩
 | alloc t=>
  rw [hop] at h
  simp only [opV] at h
  obtain ⟨z,hz,h⟩:=Option.bind_eq_some_iff.1 h
  obtain ⟨_,m1,m2,m3⟩:=aX5 _ _ _ _ _ _ h
  simp only [turns,hop]
  generalize H.mode f (o.dst.getD 0)=k at m1 m2 m3 ⊢
  match k,m1,m2,m3 with
  | 1,m1,_,_=>exact ⟨fun _=>(m1 rfl).1,fun _=>(m1 rfl).2⟩
  | 2,_,m2,_=>exact ⟨fun _=>m2 rfl,fun e=>by simp at e⟩
  | 0,_,_,m3=>exact ⟨fun e=>by simp at e,fun _=>m3 (by simp) (by simp)⟩
  | n+3,_,_,m3=>exact ⟨fun e=>by simp at e,fun _=>m3 (by simp) (by simp)⟩
 | box t x=>
  rw [hop] at h
  simp only [opV] at h
  obtain ⟨_,m1,m2,m3⟩:=aX5 _ _ _ _ _ _ h
  simp only [turns,hop]
  generalize H.mode f (o.dst.getD 0)=k at m1 m2 m3 ⊢
  match k,m1,m2,m3 with
  | 1,m1,_,_=>exact ⟨fun _=>(m1 rfl).1,fun _=>(m1 rfl).2⟩
  | 2,_,m2,_=>exact ⟨fun _=>m2 rfl,fun e=>by simp at e⟩
  | 0,_,_,m3=>exact ⟨fun e=>by simp at e,fun _=>m3 (by simp) (by simp)⟩
  | n+3,_,_,m3=>exact ⟨fun e=>by simp at e,fun _=>m3 (by simp) (by simp)⟩
 | call c=>
  rw [hop] at h
  simp only [opV] at h
  split at h
  ·rename_i b hb
   obtain ⟨_,a1,a2⟩:=br1 _ _ _ _ _ _ _ h
   simp only [turns,hop,hb]
   exact ⟨fun _=>a1,fun z=>a2 (by cases b<;>first | rfl | exact z)⟩
  ·cases h
 | makeSlice t l c=>
  rw [hop] at h
  simp only [opV] at h
  split at h
  ·obtain ⟨l',hl,h⟩:=Option.bind_eq_some_iff.1 h
   obtain ⟨c',hc,h⟩:=Option.bind_eq_some_iff.1 h
   obtain ⟨z,hz,h⟩:=Option.bind_eq_some_iff.1 h
   obtain ⟨c1,h⟩:=aa2 h
   split at h
   ·simp only [fresh,Option.some.injEq] at h
    injection h with e1 e2;subst e1;subst e2
    exact ⟨fun _=>rfl,fun _=>rfl⟩
   ·cases h
  ·cases h
 | makeMap t n=>
  rw [hop] at h
  simp only [turns,hop]
  cases n with
  | some _=>cases h
  | none=>
   simp only [opV,Option.some.injEq] at h
   injection h with e1 e2;subst e1;subst e2
   exact ⟨fun _=>rfl,fun e=>by simp at e⟩
 | mapEntry t m k=>
  rw [hop] at h
  simp only [turns,hop]
  simp only [opV,aC6] at h
  split at h
  ·obtain ⟨c1,h⟩:=aa2 h
   obtain ⟨es,h1,h⟩:=Option.bind_eq_some_iff.1 h
   obtain ⟨z,h2,h⟩:=Option.bind_eq_some_iff.1 h
   obtain ⟨c2,h⟩:=aa2 h
   obtain ⟨f0,h3,h⟩:=Option.bind_eq_some_iff.1 h
   obtain ⟨es',h4,h⟩:=Option.bind_eq_some_iff.1 h
   obtain ⟨i,h5,h⟩:=Option.map_eq_some_iff.1 h
   injection h with e1 e2;subst e1;subst e2
   exact ⟨fun _=>rfl,fun e=>by simp at e⟩
  ·cases h
 | entryStore t m s x=>
  rw [hop] at h
  simp only [turns,hop]
  simp only [opV,aD2] at h
  split at h
  ·obtain ⟨c1,h⟩:=aa2 h
   obtain ⟨es,h1,h⟩:=Option.bind_eq_some_iff.1 h
   obtain ⟨c2,h⟩:=aa2 h
   obtain ⟨kv,h3,h⟩:=Option.map_eq_some_iff.1 h
   injection h with e1 e2;subst e1;subst e2
   exact ⟨fun _=>rfl,fun e=>by simp at e⟩
  ·cases h
 | mapUpdate t m k x=>
  rw [hop] at h
  simp only [turns,hop]
  simp only [opV] at h
  split at h
  ·obtain ⟨c1,h⟩:=aa2 h
   obtain ⟨es,h1,h⟩:=Option.bind_eq_some_iff.1 h
   obtain ⟨es',h2,h⟩:=Option.map_eq_some_iff.1 h
   injection h with e1 e2;subst e1;subst e2
   exact ⟨fun _=>rfl,fun e=>by simp at e⟩
  ·cases h
 | insert t m k x=>
  rw [hop] at h
  simp only [turns,hop]
  simp only [opV] at h
  split at h
  ·obtain ⟨c1,h⟩:=aa2 h
   obtain ⟨es,h1,h⟩:=Option.bind_eq_some_iff.1 h
   obtain ⟨es',h2,h⟩:=Option.map_eq_some_iff.1 h
   injection h with e1 e2;subst e1;subst e2
   exact ⟨fun _=>rfl,fun e=>by simp at e⟩
  ·cases h
 | _=>simp [turns,hop]
theorem aw5 {st st2:St}(ht:st2.t=st.t)(x:Operand):ev H st2 x=ev H st x:=by cases x<;>simp [ev,ht]
theorem bz2 {st st2:St}(ht:st2.t=st.t)(l:List Operand):evs H st2 l=evs H st l:=evs_t fun x _=>aw5 ht x
def aF8 (tk:Bool):Op->Bool
 | .buildSlice ..=>!tk
 | .move _ | .assign _ | .pick .. | .build .. | .nilCheck _ | .unOp .. | .convert .. | .makeInterface .. | .makeFunc .. | .slice .. | .fieldAddr .. | .field .. | .indexAddr .. | .index .. | .typeAssert .. | .extract ..=>true
 | _=>false
theorem map_st {α:Type}(x:Option α)(st st2:St):(x.map fun v=>(v,st2))=(x.map fun v=>(v,st)).map fun q=>(q.1,st2):=by cases x<;>rfl
theorem aC4 {α β:Type}(x:Option α)(g:α->β)(st st2:St):(x.map fun v=>(g v,st2))=(x.map fun v=>(g v,st)).map fun q=>(q.1,st2):=by cases x<;>rfl
theorem bv7 (f:FuncId)(dst:Nat)(op:Op)(hp:aF8 (H.take f dst) op=true)(st st2:St)(ht:st2.t=st.t):opV P H f dst op st2=(opV P H f dst op st).map fun q=>(q.1,st2):=by
 have he:=aw5 (H:=H) ht
 have hes:=bz2 (H:=H) ht
 have hps:∀l:List (Nat×Operand),(l.map fun p=>(p.1,(ev H st2 p.2).1))=l.map fun p=>(p.1,(ev H st p.2).1):=fun l=>be8 fun x _=>he x
 have hop:∀o:Option Operand,(o.map fun o=>(ev H st2 o).1)=o.map fun o=>(ev H st o).1:=fun o=>opt_t fun x _=>he x
 cases op with
 | move x=>simp only [opV,he];rfl
 | assign x=>simp only [opV,he];rfl
 | pick c x y=>
  simp only [opV,he]
  cases (ev H st c).1<;>try rfl
  simp only
  obtain ⟨a,b⟩:=ev H st x
  obtain ⟨c,d⟩:=ev H st y
  cases a<;>cases c<;>rfl
 | build t parts=>simp only [opV,hps];exact aC4 _ _ _ _
 | buildSlice t n parts=>
  have htk:H.take f dst=false:=by simpa [aF8] using hp
  simp only [opV,hps,mkS,htk,cond_false]
  split
  ·cases zeroV P _ with
   | none=>rfl
   | some z=>
    simp only [Option.bind_some,ck]
    cases (decide (0<P.cellsOf _)&&decide (n*P.cellsOf _<=16777216)&&z.cells.length==P.cellsOf _&&ac5 z.cells) with
    | false=>rfl
    | true=>exact aC4 _ _ _ _
  ·rfl
 | nilCheck x=>simp only [opV,he];cases (ev H st x).1<;>rfl
 | unOp o t x=>simp only [opV,he];exact aC4 _ _ _ _
 | convert s d x=>simp only [opV,he];exact aC4 _ _ _ _
 | makeInterface t x=>
  simp only [opV,he]
  cases P.underlying t with
  | none=>rfl
  | some d=>cases d<;>cases (ev H st x).1<;>rfl
 | makeFunc fn first cap=>
  simp only [opV,hes,ck]
  cases (ac5 (evs H st first.toList)&&ac5 (evs H st cap.toList))<;>rfl
 | slice t x lo hi mx=>
  simp only [opV,he]
  obtain ⟨u,tag⟩:=ev H st x
  cases P.underlying t with
  | none=>rfl
  | some d=>
   cases d<;>cases u<;>try rfl
   ·cases mx with
    | none=>simp only;exact aC4 _ _ _ _
    | some m=>rfl
   ·simp only [ck];rename_i nn k es;rename_i e
    cases ((k==P.cellsOf e||!nn)&&(P.info? e).isSome) with
    | false=>rfl
    | true=>exact map_st _ _ _
   ·simp only [ck];rename_i id off k n c;rename_i e
    cases (k==P.cellsOf e&&(P.info? e).isSome) with
    | false=>rfl
    | true=>exact map_st _ _ _
 | fieldAddr s x i=>
  simp only [opV,he,ck]
  cases aw4 P s i with
  | none=>rfl
  | some o=>simp only [Option.bind_some];cases (P.cellsOf o.2 !=0)<;>cases (ev H st x).1<;>rfl
 | field s x i=>
  simp only [opV,he]
  cases aw4 P s i with
  | none=>rfl
  | some o=>
   simp only [Option.bind_some]
   cases (ev H st x).1<;>first | rfl | exact aC4 _ _ _ _
 | indexAddr t x i=>simp only [opV,he];exact aC4 _ _ _ _
 | index t x i=>simp only [opV,he];exact aC4 _ _ _ _
 | typeAssert x xt t ok=>
  simp only [opV,he,ck]
  have hz:((zeroV P t).bind fun z=>bif as6 z then some (((V.tup [z,.bool false]:V),Tag.no),st2) else none)=((zeroV P t).bind fun z=>bif as6 z then some (((V.tup [z,.bool false]:V),Tag.no),st) else none).map fun q=>(q.1,st2):=by
   cases zeroV P t with
   | none=>rfl
   | some z=>simp only [Option.bind_some];cases as6 z<;>rfl
  cases P.underlying t with
  | none=>rfl
  | some d=>
   cases d<;>cases (ev H st x).1<;>try rfl
   all_goals first
    | (
      simp only;split
      ·rfl
      ·split
       ·exact hz
       ·rfl)
    | (
      simp only;split
      ·exact hz
      ·rfl)
 | extract t i=>simp only [opV,he];cases (ev H st t).1<;>first | rfl | exact aC4 _ _ _ _
 | _=>simp [aF8] at hp
theorem bj5 (f:FuncId)(o:Oper)(st st1:St)(r:V×Tag)(hc:cls P H f o<3)(ha:aw8 H f st o.op=true)(h:opV P H f (o.dst.getD 0) o.op st=some (r,st1)):
  st1=st/\∀st2:St,st2.t=st.t->(cls P H f o=1->st2.a=st.a)->(cls P H f o=2->st2.s=st.s)->opV P H f (o.dst.getD 0) o.op st2=some (r,st2):=by
 cases hop:o.op with
 | load t p=>
  rw [hop] at h ha
  obtain ⟨k1,k2,k3⟩:=ptr_kind (p:=p) ha
  simp only [cls,hop] at hc ⊢
  simp only [opV] at h ⊢
  have ht:=(bx0 _ _ _ _ _ _ _ h).2.2
  have hev:∀st2:St,st2.t=st.t->ev H st2 p=ev H st p:=fun st2 e=>aw5 e p
  generalize an2 H f p=k at k1 k2 k3 hc ⊢
  match k,k1,k2,k3,hc with
  | 1,k1,_,_,_=>
   rcases k1 rfl with ⟨cs,e⟩ | e
   ·rw [e] at h
    have h0:=h
    unfold ak8 at h
    simp only at h
    obtain ⟨hu,h⟩:=aa2 h
    obtain ⟨c,hcc,h⟩:=Option.bind_eq_some_iff.1 h
    obtain ⟨v,hv,h⟩:=Option.map_eq_some_iff.1 h
    injection h with e1 e2;subst e1;subst e2
    exact ⟨rfl,fun st2 e2 _ _=>by rw [hev st2 e2,e];simp [ak8,ck,hu,hcc,hv]⟩
   ·rw [e] at h
    unfold ak8 at h
    simp only at h
    obtain ⟨_,h⟩:=aa2 h
    cases h
  | 2,_,k2,_,_=>
   obtain ⟨i,off,e⟩:=k2 rfl
   rw [e] at h
   have hsame:st1=st:=by
    unfold ak8 at h
    simp only at h
    obtain ⟨hu,h⟩:=aa2 h
    obtain ⟨box,hb,h⟩:=Option.bind_eq_some_iff.1 h
    obtain ⟨he,h⟩:=aa2 h
    obtain ⟨c,hcc,h⟩:=Option.bind_eq_some_iff.1 h
    split at h
    ·simp only [Option.some.injEq] at h;injection h with e1 e2;exact e2.symm
    ·obtain ⟨v,hv,h⟩:=Option.map_eq_some_iff.1 h;injection h with e1 e2;exact e2.symm
   subst hsame
   refine ⟨rfl,fun st2 e2 ea _=>?_⟩
   rw [hev st2 e2,e]
   have ea:=ea rfl
   have:ak8 P H f (o.dst.getD 0) t (.loc i off) st2=(ak8 P H f (o.dst.getD 0) t (.loc i off) st1).map fun q=>(q.1,st2):=by
    unfold ak8
    simp only [ck,ea]
    cases (P.underlying t).isSome with
    | false=>rfl
    | true=>
     simp only [cond_true]
     cases st1.a[i]? with
     | none=>rfl
     | some box=>
      simp only [Option.bind_some]
      cases (!box.isEmpty) with
      | false=>rfl
      | true=>
      simp only [cond_true]
      cases taken (P.cellsOf t) (box.drop off) with
      | none=>rfl
      | some c=>
       simp only [Option.bind_some]
       split
       ·rfl
       ·rw [Option.map_map];rfl
   rw [this,h];rfl
  | 3,_,_,k3,hc=>
   obtain ⟨i,off,e⟩:=k3 rfl
   have hnt:H.take f (o.dst.getD 0)=false:=by
    cases hq:H.take f (o.dst.getD 0) with
    | false=>rfl
    | true=>rw [hq] at hc;simp at hc
   rw [hnt]
   have hsame:=ht hnt
   subst hsame
   rw [e] at h
   refine ⟨rfl,fun st2 e2 _ es=>?_⟩
   rw [hev st2 e2,e]
   have es:=es rfl
   have:ak8 P H f (o.dst.getD 0) t (.obj i off) st2=(ak8 P H f (o.dst.getD 0) t (.obj i off) st1).map fun q=>(q.1,st2):=by
    unfold ak8
    simp only [ck,es,hnt,Bool.and_false,Bool.false_eq_true,if_false]
    cases (P.underlying t).isSome with
    | false=>rfl
    | true=>
     simp only [cond_true]
     cases st1.s[i]? with
     | none=>rfl
     | some ob=>cases ob with
      | map _ _=>rfl
      | gone=>rfl
      | loop _ _ _ _ _=>rfl
      | box cs=>
       simp only
       cases taken (P.cellsOf t) (cs.drop off) with
       | none=>rfl
       | some c=>
        simp only [Option.bind_some]
        split
        ·rfl
        ·rw [Option.map_map];rfl
   rw [this,h];rfl
  | 0,_,_,_,hc=>simp at hc
  | n+4,_,_,_,hc=>simp at hc
 | lookup t m k ok=>
  rw [hop] at h
  simp only [opV] at h
  split at h
  ·rename_i kt e he
   obtain ⟨c1,h⟩:=aa2 h
   obtain ⟨es,h1,h⟩:=Option.bind_eq_some_iff.1 h
   obtain ⟨q,h2,h⟩:=Option.bind_eq_some_iff.1 h
   obtain ⟨z,h3,h⟩:=Option.bind_eq_some_iff.1 h
   obtain ⟨c2,h⟩:=aa2 h
   simp only [Option.some.injEq] at h
   injection h with e1 e2;subst e1;subst e2
   refine ⟨rfl,fun st2 ht _ hs=>?_⟩
   simp only [opV,he]
   rw [aw5 ht m,aw5 ht k,aK4 (hs (by simp [cls,hop]))]
   simp only [ck,c1,h1,h2,h3,c2,cond_true,Option.bind_some]
  ·cases h
 | call c=>
  rw [hop] at h
  simp only [opV] at h
  split at h
  ·rename_i b hb
   simp only [cls,hop,hb] at hc ⊢
   have hmap:∀st2:St,st2.t=st.t->c.args.toList.map (ev H st2)=c.args.toList.map (ev H st):=fun st2 e=>List.map_congr_left fun x _=>aw5 e x
   unfold aj4 at h
   split at h
   ·rename_i _ _ x hargs
    obtain ⟨t,ht,h⟩:=Option.bind_eq_some_iff.1 h
    obtain ⟨v,hv,h⟩:=Option.map_eq_some_iff.1 h
    injection h with e1 e2;subst e1;subst e2
    refine ⟨rfl,fun st2 e2 _ hs=>?_⟩
    simp only [opV,hb]
    rw [hmap st2 e2,hargs]
    simp only [aj4,ht,Option.bind_some] at hs ⊢
    have hl:lenV P st2 t x.1=lenV P st t x.1:=by
     generalize hu:P.underlying t=u at hs
     have look:=fun hd=>lenV_look (P:=P) (t:=t) hd st st2 x.1
     rw [hu] at look
     match u,hs,look with
     | some .string,_,look=>exact look trivial
     | some (.slice _),_,look=>exact look trivial
     | some (.array _ _),_,look=>exact look trivial
     | some (.pointer _),_,look=>exact look trivial
     | none,hs,_=>exact aw3 (hs rfl) _ _
     | some .bool,hs,_=>exact aw3 (hs rfl) _ _
     | some (.int _),hs,_=>exact aw3 (hs rfl) _ _
     | some (.map _ _),hs,_=>exact aw3 (hs rfl) _ _
     | some (.struct _),hs,_=>exact aw3 (hs rfl) _ _
     | some (.interface _),hs,_=>exact aw3 (hs rfl) _ _
     | some (.func _ _ _),hs,_=>exact aw3 (hs rfl) _ _
     | some (.named _ _),hs,_=>exact aw3 (hs rfl) _ _
     | some (.float _),hs,_=>exact aw3 (hs rfl) _ _
     | some (.complex _),hs,_=>exact aw3 (hs rfl) _ _
     | some .unsafePointer,hs,_=>exact aw3 (hs rfl) _ _
     | some (.chan _ _),hs,_=>exact aw3 (hs rfl) _ _
     | some (.tuple _),hs,_=>exact aw3 (hs rfl) _ _
     | some .invalid,hs,_=>exact aw3 (hs rfl) _ _
    rw [hl,hv];rfl
   ·simp at hc
   ·simp at hc
   ·rename_i l
    obtain ⟨v,hv,h⟩:=Option.map_eq_some_iff.1 h
    injection h with e1 e2;subst e1;subst e2
    exact ⟨rfl,fun st2 e2 _ _=>by simp only [opV,hb];rw [hmap st2 e2];simp only [aj4,hv];rfl⟩
   ·rename_i l
    obtain ⟨v,hv,h⟩:=Option.map_eq_some_iff.1 h
    injection h with e1 e2;subst e1;subst e2
    exact ⟨rfl,fun st2 e2 _ _=>by simp only [opV,hb];rw [hmap st2 e2];simp only [aj4,hv];rfl⟩
   ·cases h
  ·cases h
 | binOp op t x y t'=>
  rw [hop] at h
  simp only [cls,hop] at hc ⊢
  simp only [opV] at h ⊢
  have he:∀st2:St,st2.t=st.t->∀x,ev H st2 x=ev H st x:=fun st2 e x=>aw5 e x
  cases hp:ptrT P op t y with
  | none=>
   have hn:∀s x' y',av0 P op t s x' y' y=none:=by intro s x' y';unfold av0;rw [hp]
   rw [hn] at h
   simp only at h
   obtain ⟨v,hv,h⟩:=Option.map_eq_some_iff.1 h
   injection h with e1 e2;subst e1;subst e2
   exact ⟨rfl,fun st2 e _ _=>by rw [hn,he st2 e x,he st2 e y,hv];rfl⟩
  | some q=>
   split at h
   ·rename_i v hv
    simp only [Option.some.injEq] at h
    injection h with e1 e2;subst e1;subst e2
    exact ⟨rfl,fun st2 e _ h2=>by rw [he st2 e x,he st2 e y,h2 rfl,hv]⟩
   ·rename_i hn
    obtain ⟨v,hv,h⟩:=Option.map_eq_some_iff.1 h
    injection h with e1 e2;subst e1;subst e2
    exact ⟨rfl,fun st2 e _ h2=>by rw [he st2 e x,he st2 e y,h2 rfl,hn,hv];rfl⟩
 | store t p x=>simp [cls,hop] at hc
 | alloc t=>simp [cls,hop] at hc
 | box t x=>simp [cls,hop] at hc
 | makeSlice t l c=>simp [cls,hop] at hc
 | makeMap t n=>simp [cls,hop] at hc
 | mapEntry t m k=>simp [cls,hop] at hc
 | entryStore t m s x=>simp [cls,hop] at hc
 | mapUpdate t m k x=>simp [cls,hop] at hc
 | insert t m k x=>simp [cls,hop] at hc
 | _=>
  have hp:aF8 (H.take f (o.dst.getD 0)) o.op=true∨cls P H f o=3:=by rw [hop];first | exact .inl rfl | (right;simp [cls,hop];done) | (cases htk:H.take f (o.dst.getD 0)<;>simp [aF8,cls,hop,htk])
  have hp:=hp.resolve_right (by omega)
  have h0:=bv7 (P:=P) (H:=H) f (o.dst.getD 0) o.op hp st st rfl
  rw [h] at h0
  simp at h0
  refine ⟨by rw [h0],fun st2 ht _ _=>?_⟩
  rw [←hop,bv7 (P:=P) (H:=H) f (o.dst.getD 0) o.op hp st st2 ht,h]
  rfl
end
end Go.Proofs.YtnpjififnhjbbaaDoor.E
namespace Go.Proofs.YtnpjififnhjbbaaDoor.E
open Go
section
variable {P:Program} {H:ae2}
theorem az7 {f:FuncId}{dst:Option Nat}{v:V×Tag}{st st1:St}(h:goD H f dst v st=some st1)(K:St->Option Out):goOn H f dst v K st=K st1:=by
 unfold goD at h
 obtain ⟨v',h1,rfl⟩:=Option.map_eq_some_iff.1 h
 unfold goOn
 rw [h1];rfl
theorem callD_callV {rec:Rec}{f g:FuncId}{args:List V}{dst:Option Nat}{st st1:St}(h:aH4 H rec f g args dst st=some st1)(K:St->Option Out)(KP:Cont):aA2 H rec f g args dst st K KP=K st1:=by
 unfold aH4 at h
 obtain ⟨c1,h⟩:=aa2 h
 unfold aA2
 simp only [ck,c1,cond_true]
 cases hp:H.pure g with
 | false=>
  rw [hp] at h
  simp only [cond_false] at h ⊢
  obtain ⟨o,ho,h⟩:=Option.bind_eq_some_iff.1 h
  rw [ho]
  simp only [Option.bind_some]
  cases o with
  | pan v s=>cases h
  | ret vs s=>
   simp only at h ⊢
   cases hh:((H.own g).headD false&&vs.length==1) with
   | true=>rw [hh] at h;exact az7 h K
   | false=>rw [hh] at h;exact az7 h K
 | true=>
  rw [hp] at h
  simp only [cond_true] at h ⊢
  obtain ⟨c2,h⟩:=aa2 h
  simp only [c2,cond_true]
  obtain ⟨o,ho,h⟩:=Option.bind_eq_some_iff.1 h
  rw [ho]
  simp only [Option.bind_some]
  cases o with
  | pan v s=>cases h
  | ret vs s=>
   simp only at h ⊢
   obtain ⟨c3,h⟩:=aa2 h
   simp only [c3,cond_true]
   cases hh:((H.own g).headD false&&vs.length==1) with
   | true=>rw [hh] at h;exact az7 h K
   | false=>rw [hh] at h;exact az7 h K
theorem yieldD_yieldV {rec:Rec}{f:FuncId}{id:Nat}{args:List V}{dst:Option Nat}{st st1:St}(h:aM4 P H rec f id args dst st=some st1)(K:St->Option Out):aQ1 P H rec f id args dst st K=K st1:=by
 unfold aM4 at h
 unfold aQ1
 obtain ⟨c1,h⟩:=aa2 h
 obtain ⟨out,ho,h⟩:=Option.bind_eq_some_iff.1 h
 simp only [ck,c1,cond_true,ho,Option.bind_some]
 cases out with
 | pan v s=>cases h
 | ret vs s=>exact az7 h K
theorem bp4 {rec:Rec}{inr:Bool}{f:FuncId}{o:Oper}{st st1:St}(h:am2 P H rec f o st=some st1)(K:St->Option Out)(KP:Cont):step P H rec inr f o K KP st=K st1:=by
 cases hop:o.op with
 | call c=>
  unfold am2 at h
  unfold step
  rw [hop] at h ⊢
  simp only at h ⊢
  split at h
  ·rename_i b hb
   obtain ⟨r,hr,h⟩:=Option.bind_eq_some_iff.1 h
   simp only [hr,Option.bind_some]
   exact az7 h K
  ·rename_i hnb
   cases hy:av1 H st c with
   | some id=>
    rw [hy] at h
    exact yieldD_yieldV h K
   | none=>
   rw [hy] at h
   simp only at h ⊢
   obtain ⟨g,hg,h⟩:=Option.bind_eq_some_iff.1 h
   rw [hg]
   simp only [Option.bind_some]
   split at h
   ·rename_i e he
    obtain ⟨c1,h⟩:=aa2 h
    obtain ⟨v,hv,h⟩:=Option.bind_eq_some_iff.1 h
    simp only [ck,c1,cond_true,hv,Option.bind_some]
    exact az7 h K
   ·rename_i he
    obtain ⟨c1,h⟩:=aa2 h
    simp only [ck,c1,cond_true]
    exact callD_callV h K KP
 | defer c=>unfold am2 at h;rw [hop] at h;cases h
 | panic x=>unfold am2 at h;rw [hop] at h;cases h
 | _=>
  unfold am2 at h
  unfold step
  rw [hop] at h ⊢
  simp only at h ⊢
  obtain ⟨c1,h⟩:=aa2 h
  obtain ⟨r,hr,h⟩:=Option.bind_eq_some_iff.1 h
  simp only [ck,c1,cond_true,hr,Option.bind_some]
  exact az7 h K
def Frames (P:Program)(H:ae2)(f:FuncId)(o:Oper)(st st1:St)(look:List Tmp)(X:St->Option St):Prop:=
 ∃(st':St) (v:V×Tag),st1=st'.put o.dst v/\st'.t=st.t/\st'.d=st.d/\((turns H f o).1=false->st'.a=st.a)/\((turns H f o).2=false->st'.s=st.s)/\(cls P H f o<3->st'=st) /\
  ∀t2,(∀t∈look,t2.getD t (.undef,.no)=st.t.getD t (.undef,.no))->X {st with t:=t2}=some ({st' with t:=t2}.put o.dst v)
theorem aK7 {st:St}{t2:List (V×Tag)}{l:List Operand}(h:∀t∈l.filterMap (fun | .tmp t=>some t | _=>none),t2.getD t (.undef,.no)=st.t.getD t (.undef,.no)):∀x∈l,ev H {st with t:=t2} x=ev H st x:=by
 intro x hx
 cases x with
 | tmp t=>exact h t (List.mem_filterMap.2 ⟨_,hx,rfl⟩)
 | _=>rfl
theorem ptrOk_t {f:FuncId}{st:St}{t2:List (V×Tag)}{p:Operand}(h:ev H {st with t:=t2} p=ev H st p):be6 H f {st with t:=t2} p=be6 H f st p:=by
 cases p with
 | tmp t=>simp only [be6,ev] at h ⊢;rw [h]
 | _=>rfl
theorem addrOk_t {f:FuncId}{st:St}{t2:List (V×Tag)}{op:Op}(h:∀x∈op.operands,ev H {st with t:=t2} x=ev H st x):aw8 H f {st with t:=t2} op=aw8 H f st op:=by
 cases op with
 | load t p=>exact ptrOk_t (h p (by simp [Op.operands]))
 | store t p x=>exact ptrOk_t (h p (by simp [Op.operands]))
 | _=>rfl
theorem callee_t {st:St}{t2:List (V×Tag)}{c:Call}(h:∀x∈(Op.call c).operands,ev H {st with t:=t2} x=ev H st x):ag3 H {st with t:=t2} c=ag3 H st c:=by
 have ha:evs H {st with t:=t2} c.args.toList=evs H st c.args.toList:=evs_t fun x hx=>h x (by simp only [Op.operands,Call.operands];simp;exact .inr (by simpa using hx))
 unfold ag3
 simp only [ha]
 cases hc:c.callee with
 | value f=>simp only;rw [h f (by simp [Op.operands,Call.operands,hc])]
 | invoke r m=>simp only;rw [h r (by simp [Op.operands,Call.operands,hc])]
 | builtin b=>rfl
theorem yld_t {st:St}{t2:List (V×Tag)}{c:Call}(h:∀x∈(Op.call c).operands,ev H {st with t:=t2} x=ev H st x):av1 H {st with t:=t2} c=av1 H st c:=by
 unfold av1
 cases hc:c.callee with
 | value f=>simp only;rw [h f (by simp [Op.operands,Call.operands,hc])]
 | invoke r m=>rfl
 | builtin b=>rfl
theorem yieldD_frames {rec:Rec}(f:FuncId)(o:Oper)(id:Nat)(args:List V)(st st1:St)(h:aM4 P H rec f id args o.dst st=some st1):
  ∃(st':St) (v:V×Tag),st1=st'.put o.dst v/\st'.t=st.t/\st'.d=st.d/\st'.a=st.a/\∀t2,aM4 P H rec f id args o.dst {st with t:=t2}=some ({st' with t:=t2}.put o.dst v):=by
 unfold aM4 at h
 obtain ⟨c1,h⟩:=aa2 h
 obtain ⟨out,ho,h⟩:=Option.bind_eq_some_iff.1 h
 cases out with
 | pan v s=>cases h
 | ret vs s=>
  simp only [goD] at h
  obtain ⟨v',hv,rfl⟩:=Option.map_eq_some_iff.1 h
  exact ⟨{st with s:=s},(v',.no),rfl,rfl,rfl,rfl,fun t2=>by simp only [aM4,ck,c1,cond_true,ho,Option.bind_some,goD,hv,Option.map_some]⟩
theorem ba6 (f:FuncId)(o:Oper)(st st1:St)(ha:aw8 H f st o.op=true)(h:(opV P H f (o.dst.getD 0) o.op st).bind (fun r=>goD H f o.dst r.1 r.2)=some st1):
  Frames P H f o st st1 (o.op.operands.toList.filterMap fun | .tmp t=>some t | _=>none) fun st=>ck (aw8 H f st o.op) ((opV P H f (o.dst.getD 0) o.op st).bind fun r=>goD H f o.dst r.1 r.2):=by
 obtain ⟨r,hr,h⟩:=Option.bind_eq_some_iff.1 h
 unfold goD at h
 obtain ⟨v',hv,rfl⟩:=Option.map_eq_some_iff.1 h
 obtain ⟨a1,a2,a3⟩:=opV_t f (o.dst.getD 0) o.op st r.2 r.1 hr
 obtain ⟨b1,b2⟩:=opV_turn f o st r.2 r.1 ha hr
 refine ⟨r.2,(v',r.1.2),rfl,a1,a2,b1,b2,fun hc=>(bj5 f o st r.2 r.1 hc ha hr).1,fun t2 hl=>?_⟩
 have hev:=aK7 (H:=H) (st:=st) (l:=o.op.operands.toList) hl
 have hev':∀x∈o.op.operands,ev H {st with t:=t2} x=ev H st x:=fun x hx=>hev x (by simpa using hx)
 simp only [addrOk_t hev',ck,ha,cond_true,a3 t2 hev',Option.bind_some]
 unfold goD
 rw [hv];rfl
theorem bc6 {rec:Rec}(f:FuncId)(o:Oper)(g:FuncId)(args:List V)(st st1:St)(h:aH4 H rec f g args o.dst st=some st1):
  ∃(st':St) (v:V×Tag),st1=st'.put o.dst v/\st'.t=st.t/\st'.d=st.d/\st'.a=st.a/\(H.pure g=true->st'.s=st.s)/\(H.pure g=true->(H.own g).headD false=false->st'=st/\∀st2,aH4 H rec f g args o.dst st2=some (st2.put o.dst v)) /\
   ∀t2,aH4 H rec f g args o.dst {st with t:=t2}=some ({st' with t:=t2}.put o.dst v):=by
 unfold aH4 at h
 obtain ⟨c1,h⟩:=aa2 h
 cases hp:H.pure g with
 | false=>
  rw [hp] at h
  simp only [cond_false] at h
  obtain ⟨out,ho,h⟩:=Option.bind_eq_some_iff.1 h
  cases out with
  | pan v s=>cases h
  | ret vs s=>
   simp only at h
   cases hh:((H.own g).headD false&&vs.length==1) with
   | true=>
    rw [hh] at h
    simp only [cond_true,goD,fresh] at h
    obtain ⟨v',hv,rfl⟩:=Option.map_eq_some_iff.1 h
    refine ⟨_,_,rfl,rfl,rfl,rfl,fun e=>by simp at e,fun e=>by simp at e,fun t2=>?_⟩
    simp only [aH4,ck,c1,cond_true,hp,cond_false,ho,Option.bind_some,hh,goD,fresh,hv,Option.map_some]
   | false=>
    rw [hh] at h
    simp only [cond_false,goD] at h
    obtain ⟨v',hv,rfl⟩:=Option.map_eq_some_iff.1 h
    refine ⟨_,_,rfl,rfl,rfl,rfl,fun e=>by simp at e,fun e=>by simp at e,fun t2=>?_⟩
    simp only [aH4,ck,c1,cond_true,hp,cond_false,ho,Option.bind_some,hh,goD,hv,Option.map_some]
 | true=>
  rw [hp] at h
  simp only [cond_true] at h
  obtain ⟨c2,h⟩:=aa2 h
  obtain ⟨out,ho,h⟩:=Option.bind_eq_some_iff.1 h
  cases out with
  | pan v s=>cases h
  | ret vs s=>
   simp only at h
   obtain ⟨c3,h⟩:=aa2 h
   cases hh:((H.own g).headD false&&vs.length==1) with
   | true=>
    rw [hh] at h
    simp only [cond_true,goD,fresh] at h
    obtain ⟨v',hv,rfl⟩:=Option.map_eq_some_iff.1 h
    refine ⟨_,_,rfl,rfl,rfl,rfl,fun _=>rfl,fun _ e=>?_,fun t2=>?_⟩
    ·rw [e] at hh;simp at hh
    ·simp only [aH4,ck,c1,cond_true,hp,c2,ho,Option.bind_some,c3,hh,goD,fresh,hv,Option.map_some]
   | false=>
    rw [hh] at h
    simp only [cond_false,goD] at h
    obtain ⟨v',hv,rfl⟩:=Option.map_eq_some_iff.1 h
    have all:∀st2:St,aH4 H rec f g args o.dst st2=some (st2.put o.dst (v',.no)):=fun st2=>by
     simp only [aH4,ck,c1,cond_true,hp,c2,ho,Option.bind_some,c3,hh,cond_false,goD,hv,Option.map_some]
    exact ⟨st,_,rfl,rfl,rfl,rfl,fun _=>rfl,fun _ _=>⟨rfl,all⟩,fun t2=>all _⟩
end
end Go.Proofs.YtnpjififnhjbbaaDoor.E
namespace Go.Proofs.YtnpjififnhjbbaaDoor.E
open Go
section
variable {P:Program} {H:ae2}
theorem bs3 {f:FuncId}{o:Oper}{c:Call}(hop:o.op=.call c){st:St}{id:Nat}(hy:av1 H st c=some id):cls P H f o=3:=by
 unfold av1 at hy
 unfold cls
 rw [hop]
 cases hc:c.callee with
 | builtin b=>rw [hc] at hy;cases hy
 | invoke r m=>simp only [hc]
 | value fo=>
  rw [hc] at hy
  cases fo with
  | func g=>cases hy
  | _=>simp only [hc]
theorem aM6 {rec:Rec}(f:FuncId)(o:Oper)(st st1:St)(h:am2 P H rec f o st=some st1):
  Frames P H f o st st1 (o.op.operands.toList.filterMap fun | .tmp t=>some t | _=>none) (am2 P H rec f o):=by
 cases hop:o.op with
 | call c=>
  have h0:=h
  unfold am2 at h
  rw [hop] at h
  simp only at h
  split at h
  ·rename_i b hb
   have hX:∀st:St,am2 P H rec f o st=(ck (aw8 H f st o.op) ((opV P H f (o.dst.getD 0) o.op st).bind fun r=>goD H f o.dst r.1 r.2)):=by
    intro st
    unfold am2
    rw [hop]
    simp only [hb,aw8,ck,cond_true]
   have:=ba6 (P:=P) (H:=H) f o st st1 (by rw [hop];rfl) (by rw [hop];exact h)
   rw [hop] at this
   obtain ⟨st',v,e1,e2,e3,e4,e5,e6,e7⟩:=this
   exact ⟨st',v,e1,e2,e3,e4,e5,e6,fun t2 hl=>by rw [hX,hop];exact e7 t2 hl⟩
  ·rename_i hnb
   cases hy:av1 H st c with
   | some id=>
    rw [hy] at h
    simp only at h
    have hturn:turns H f o=(false,true):=by
     unfold turns
     rw [hop]
     cases hc:c.callee with
     | builtin b=>exact absurd hc (hnb b)
     | value _=>simp only [hc]
     | invoke _ _=>simp only [hc]
    obtain ⟨st',v,e1,e2,e3,e4,e5⟩:=yieldD_frames f o id _ st st1 h
    refine ⟨st',v,e1,e2,e3,fun _=>e4,(fun q=>by rw [hturn] at q;cases q),fun hc=>?_,fun t2 hl=>?_⟩
    ·have:=bs3 (P:=P) (f:=f) hop hy
     omega
    ·have hev:=aK7 (H:=H) (st:=st) (l:=(Op.call c).operands.toList) hl
     have hevs:evs H {st with t:=t2} c.args.toList=evs H st c.args.toList:=evs_t fun x hx=>hev x (by simp only [Op.operands,Call.operands];simp;exact .inr (by simpa using hx))
     unfold am2
     rw [hop]
     cases hcc:c.callee with
     | builtin b=>exact absurd hcc (hnb b)
     | value _=>simp only [hcc];rw [yld_t (fun x hx=>hev x (by simpa using hx)),hy,hevs];exact e5 t2
     | invoke _ _=>simp only [hcc];rw [yld_t (fun x hx=>hev x (by simpa using hx)),hy,hevs];exact e5 t2
   | none=>
   rw [hy] at h
   simp only at h
   obtain ⟨g,hg,h⟩:=Option.bind_eq_some_iff.1 h
   have hX:∀st2:St,av1 H st2 c=none->ag3 H st2 c=some g->am2 P H rec f o st2=(match H.ext g.1 with
     | some e=>ck (g.2.all ad2)<|(e g.2).bind fun v=>goD H f o.dst (v,.no) st2
     | none=>ck (H.ok g.1) (aH4 H rec f g.1 g.2 o.dst st2)):=by
    intro st2 hy2 hg2
    unfold am2
    rw [hop]
    cases hcc:c.callee with
    | builtin b=>exact absurd hcc (hnb b)
    | value _=>simp only [hcc];rw [hy2,hg2];rfl
    | invoke _ _=>simp only [hcc];rw [hy2,hg2];rfl
   have hyld:∀t2,(∀t∈(Op.call c).operands.toList.filterMap (fun | .tmp t=>some t | _=>none),t2.getD t (.undef,.no)=st.t.getD t (.undef,.no))->av1 H {st with t:=t2} c=none:=by
    intro t2 hl
    have hev:=aK7 (H:=H) (st:=st) (l:=(Op.call c).operands.toList) hl
    rw [yld_t (fun x hx=>hev x (by simpa using hx)),hy]
   have hcallee:∀t2,(∀t∈(Op.call c).operands.toList.filterMap (fun | .tmp t=>some t | _=>none),t2.getD t (.undef,.no)=st.t.getD t (.undef,.no))->ag3 H {st with t:=t2} c=some g:=by
    intro t2 hl
    have hev:=aK7 (H:=H) (st:=st) (l:=(Op.call c).operands.toList) hl
    rw [callee_t (fun x hx=>hev x (by simpa using hx)),hg]
   have hturn:turns H f o=(false,true):=by
    unfold turns
    rw [hop]
    cases hc:c.callee with
    | builtin b=>exact absurd hc (hnb b)
    | value _=>simp only [hc]
    | invoke _ _=>simp only [hc]
   cases he:H.ext g.1 with
   | some e=>
    rw [he] at h
    simp only at h
    obtain ⟨c1,h⟩:=aa2 h
    obtain ⟨v,hv,h⟩:=Option.bind_eq_some_iff.1 h
    unfold goD at h
    obtain ⟨v',hv',rfl⟩:=Option.map_eq_some_iff.1 h
    refine ⟨st,(v',.no),rfl,rfl,rfl,fun _=>rfl,fun _=>rfl,fun _=>rfl,fun t2 hl=>?_⟩
    rw [hX _ (hyld t2 hl) (hcallee t2 hl),he]
    simp only [ck,c1,cond_true,hv,Option.bind_some,goD,hv',Option.map_some]
   | none=>
    rw [he] at h
    simp only at h
    obtain ⟨c1,h⟩:=aa2 h
    obtain ⟨st',v,e1,e2,e3,e4,e5,e6,e7⟩:=bc6 f o g.1 g.2 st st1 h
    refine ⟨st',v,e1,e2,e3,fun _=>e4,(fun q=>by rw [hturn] at q;cases q),fun hc=>?_,fun t2 hl=>?_⟩
    ·simp only [cls,hop] at hc
     cases hcc:c.callee with
     | builtin b=>exact absurd hcc (hnb b)
     | invoke r m=>rw [hcc] at hc;simp at hc
     | value fo=>
      rw [hcc] at hc
      cases fo with
      | func g'=>
       have hgg:g.1=g':=by
        unfold ag3 at hg
        rw [hcc] at hg
        simp only [ev,Option.some.injEq] at hg
        rw [←hg]
       subst hgg
       simp only [he,Option.isSome_none,Bool.false_or] at hc
       cases hp:H.pure g.1 with
       | false=>rw [hp] at hc;simp at hc
       | true=>
        cases ho:(H.own g.1).headD false with
        | true=>rw [hp,ho] at hc;simp at hc
        | false=>exact (e6 hp ho).1
      | _=>simp at hc
    ·rw [hX _ (hyld t2 hl) (hcallee t2 hl),he]
     simp only [ck,c1,cond_true]
     exact e7 t2
 | defer c=>unfold am2 at h;rw [hop] at h;cases h
 | panic x=>unfold am2 at h;rw [hop] at h;cases h
 | _=>
  have hX:∀st:St,am2 P H rec f o st=(ck (aw8 H f st o.op) ((opV P H f (o.dst.getD 0) o.op st).bind fun r=>goD H f o.dst r.1 r.2)):=by
   intro st
   unfold am2
   rw [hop]
  rw [hX] at h
  obtain ⟨c1,h⟩:=aa2 h
  have:=ba6 (P:=P) (H:=H) f o st st1 c1 h
  rw [hop] at this
  obtain ⟨st',v,e1,e2,e3,e4,e5,e6,e7⟩:=this
  exact ⟨st',v,e1,e2,e3,e4,e5,e6,fun t2 hl=>by rw [hX,hop];exact e7 t2 hl⟩
theorem bp5 {rec:Rec}(f:FuncId)(o:Oper)(st st1:St)(hc:cls P H f o<3)(h:am2 P H rec f o st=some st1):
  ∃v,st1=st.put o.dst v/\∀st2:St,(∀t∈o.op.operands.toList.filterMap (fun | .tmp t=>some t | _=>none),st2.t.getD t (.undef,.no)=st.t.getD t (.undef,.no))->(cls P H f o=1->st2.a=st.a)->(cls P H f o=2->st2.s=st.s) ->
   am2 P H rec f o st2=some (st2.put o.dst v):=by
 obtain ⟨st',v,e1,e2,e3,e4,e5,e6,e7⟩:=aM6 f o st st1 h
 have es:=e6 hc
 subst es
 refine ⟨v,e1,fun st2 hl ha hs=>?_⟩
 have h2:=e7 st2.t hl
 have hcell:∀(s1 s2:St) (u:V×Tag),s2.t=s1.t->(cls P H f o=1->s2.a=s1.a)->(cls P H f o=2->s2.s=s1.s)->am2 P H rec f o s1=some (s1.put o.dst u)->(∀q,am2 P H rec f o s1=some q->q.t=(s1.put o.dst u).t)->am2 P H rec f o s2=some (s2.put o.dst u):=by
  intro s1 s2 u ht ha hs hq _
  cases hop:o.op with
  | call c=>
   have h0:=hq
   unfold am2 at hq ⊢
   rw [hop] at hq ⊢
   simp only at hq ⊢
   have hcal:ag3 H s2 c=ag3 H s1 c:=by
    unfold ag3
    simp only [bz2 ht]
    cases c.callee with
    | value fo=>simp only;rw [aw5 ht]
    | invoke r m=>simp only;rw [aw5 ht]
    | builtin b=>rfl
   split at hq
   ·rename_i b hb
    obtain ⟨r,hr,hq⟩:=Option.bind_eq_some_iff.1 hq
    obtain ⟨r1,r2⟩:=bj5 f o s1 r.2 r.1 hc (by rw [hop];rfl) (by rw [hop];exact hr)
    have hr2:=r2 s2 ht ha hs
    rw [hop] at hr2
    rw [hr2]
    simp only [Option.bind_some]
    unfold goD at hq ⊢
    obtain ⟨v',hv',e⟩:=Option.map_eq_some_iff.1 hq
    rw [hv']
    rw [r1] at e
    simp only [Option.map_some,Option.some.injEq]
    have:(s1.put o.dst (v',r.1.2)).t=(s1.put o.dst u).t:=by rw [e]
    cases hd:o.dst with
    | none=>rfl
    | some d=>
     rw [hd] at this
     simp only [St.put] at this ⊢
     rw [ht,this]
   ·rename_i hnb
    have hy1:av1 H s1 c=none:=by
     cases hy:av1 H s1 c with
     | none=>rfl
     | some id=>have:=bs3 (P:=P) (f:=f) hop hy;omega
    have hy2:av1 H s2 c=none:=by
     cases hy:av1 H s2 c with
     | none=>rfl
     | some id=>have:=bs3 (P:=P) (f:=f) hop hy;omega
    rw [hy1] at hq
    rw [hy2]
    simp only at hq ⊢
    obtain ⟨g,hg,hq⟩:=Option.bind_eq_some_iff.1 hq
    rw [hcal,hg]
    simp only [Option.bind_some]
    split at hq
    ·rename_i e he
     obtain ⟨c1,hq⟩:=aa2 hq
     obtain ⟨v0,hv0,hq⟩:=Option.bind_eq_some_iff.1 hq
     simp only [ck,c1,cond_true,hv0,Option.bind_some]
     unfold goD at hq ⊢
     obtain ⟨v',hv',e⟩:=Option.map_eq_some_iff.1 hq
     rw [hv']
     simp only [Option.map_some,Option.some.injEq]
     have:(s1.put o.dst (v',Tag.no)).t=(s1.put o.dst u).t:=by rw [e]
     cases hd:o.dst with
     | none=>rfl
     | some d=>
      rw [hd] at this
      simp only [St.put] at this ⊢
      rw [ht,this]
    ·rename_i he
     obtain ⟨c1,hq⟩:=aa2 hq
     simp only [ck,c1,cond_true]
     obtain ⟨st'',v'',d1,d2,d3,d4,d5,d6,d7⟩:=bc6 f o g.1 g.2 s1 _ hq
     simp only [cls,hop] at hc
     have hpo:H.pure g.1=true/\(H.own g.1).headD false=false:=by
      cases hcc:c.callee with
      | builtin b=>exact absurd hcc (hnb b)
      | invoke r m=>rw [hcc] at hc;simp at hc
      | value fo=>
       rw [hcc] at hc
       cases fo with
       | func g'=>
        have hgg:g.1=g':=by
         unfold ag3 at hg
         rw [hcc] at hg
         simp only [ev,Option.some.injEq] at hg
         rw [←hg]
        subst hgg
        simp only [he,Option.isSome_none,Bool.false_or] at hc
        cases hp:H.pure g.1 with
        | false=>rw [hp] at hc;simp at hc
        | true=>
         cases ho:(H.own g.1).headD false with
         | true=>rw [hp,ho] at hc;simp at hc
         | false=>exact ⟨rfl,rfl⟩
       | _=>simp at hc
     obtain ⟨z1,z2⟩:=d6 hpo.1 hpo.2
     rw [z2 s2]
     congr 1
     have:(s1.put o.dst v'').t=(s1.put o.dst u).t:=by rw [d1,z1]
     cases hd:o.dst with
     | none=>rfl
     | some d=>
      rw [hd] at this
      simp only [St.put] at this ⊢
      rw [ht,this]
  | defer c=>unfold am2 at hq;rw [hop] at hq;cases hq
  | panic x=>unfold am2 at hq;rw [hop] at hq;cases hq
  | _=>
   have hX:∀st:St,am2 P H rec f o st=(ck (aw8 H f st o.op) ((opV P H f (o.dst.getD 0) o.op st).bind fun r=>goD H f o.dst r.1 r.2)):=by
    intro st
    unfold am2
    rw [hop]
   rw [hX] at hq ⊢
   obtain ⟨c1,hq⟩:=aa2 hq
   have c2:aw8 H f s2 o.op=true:=by
    rw [←c1]
    cases o.op<;>first | rfl | (simp only [aw8,be6];split<;>simp [ht])
   obtain ⟨r,hr,hq⟩:=Option.bind_eq_some_iff.1 hq
   obtain ⟨r1,r2⟩:=bj5 f o s1 r.2 r.1 hc c1 hr
   rw [r2 s2 ht ha hs]
   simp only [ck,c2,cond_true,Option.bind_some]
   unfold goD at hq ⊢
   obtain ⟨v',hv',e⟩:=Option.map_eq_some_iff.1 hq
   rw [hv']
   rw [r1] at e
   simp only [Option.map_some,Option.some.injEq]
   have:(s1.put o.dst (v',r.1.2)).t=(s1.put o.dst u).t:=by rw [e]
   cases hd:o.dst with
   | none=>rfl
   | some d=>
    rw [hd] at this
    simp only [St.put] at this ⊢
    rw [ht,this]
 exact hcell {st' with t:=st2.t} st2 v rfl ha hs h2 (fun q hq=>by rw [h2] at hq;simp at hq;rw [←hq])
end
end Go.Proofs.YtnpjififnhjbbaaDoor.E
namespace Go.Proofs.YtnpjififnhjbbaaDoor.E
open Go
section
variable {P:Program} {H:ae2}
theorem opD_frames {rec:Rec}(f:FuncId)(os:Array Oper)(i:Nat)(o:Oper)(ho:os[i]? =some o)(st st1:St)(h:opD P H rec f os i st=some st1):
  Frames P H f o st st1 (o.looksAt os) (opD P H rec f os i):=by
 unfold opD at h
 rw [ho] at h
 simp only [Option.bind_some] at h
 cases hg:o.guard with
 | none=>
  rw [hg] at h
  obtain ⟨st',v,e1,e2,e3,e4,e5,e6,e7⟩:=aM6 f o st st1 h
  refine ⟨st',v,e1,e2,e3,e4,e5,e6,fun t2 hl=>?_⟩
  unfold opD
  rw [ho]
  simp only [Option.bind_some,hg]
  exact e7 t2 fun t ht=>hl t (List.mem_append_left _ ht)
 | some jw=>
  obtain ⟨j,want⟩:=jw
  rw [hg] at h
  simp only at h
  cases hd:(os[j]?).bind (·.dst) with
  | none=>rw [hd] at h;cases h
  | some d=>
   rw [hd] at h
   simp only [Option.map_some] at h
   have hin:d∈o.looksAt os:=by
    unfold Oper.looksAt
    rw [hg]
    simp only
    rw [hd]
    simp
   have hsame:∀t2:List (V×Tag),(∀t∈o.looksAt os,t2.getD t (.undef,.no)=st.t.getD t (.undef,.no))->t2.getD d (.undef,.no)=st.t.getD d (.undef,.no):=fun t2 hl=>hl d hin
   have hX:∀t2:List (V×Tag),t2.getD d (.undef,.no)=st.t.getD d (.undef,.no)->opD P H rec f os i {st with t:=t2}=(match (some ((st.t.getD d (.undef,.no)).1):Option V) with
     | some (.bool b)=>bif b==want then am2 P H rec f o {st with t:=t2} else some (({st with t:=t2}:St).put o.dst (.tup [],.no))
     | some (.tup [])=>some (({st with t:=t2}:St).put o.dst (.tup [],.no))
     | _=>none):=by
    intro t2 e
    unfold opD
    rw [ho]
    simp only [Option.bind_some,hg,hd,Option.map_some]
    rw [e]
    rfl
   have skip:st1=st.put o.dst (.tup [],.no)->(∀t2:List (V×Tag),t2.getD d (.undef,.no)=st.t.getD d (.undef,.no)->opD P H rec f os i {st with t:=t2}=some (({st with t:=t2}:St).put o.dst (.tup [],.no)))->Frames P H f o st st1 (o.looksAt os) (opD P H rec f os i):=
    fun e hall=>⟨st,(.tup [],.no),e,rfl,rfl,fun _=>rfl,fun _=>rfl,fun _=>rfl,fun t2 hl=>hall t2 (hsame t2 hl)⟩
   generalize hz:(st.t.getD d (.undef,.no)).1=z at h hX
   cases z with
   | bool b=>
    simp only at h
    cases hb:(b==want) with
    | true=>
     rw [hb] at h
     obtain ⟨st',v,e1,e2,e3,e4,e5,e6,e7⟩:=aM6 f o st st1 h
     refine ⟨st',v,e1,e2,e3,e4,e5,e6,fun t2 hl=>?_⟩
     rw [hX t2 (hsame t2 hl)]
     simp only [hb,cond_true]
     exact e7 t2 fun t ht=>hl t (List.mem_append_left _ ht)
    | false=>
     rw [hb] at h
     simp only [cond_false,Option.some.injEq] at h
     refine skip h.symm fun t2 e=>?_
     rw [hX t2 e]
     simp only [hb,cond_false]
   | tup vs=>
    cases vs with
    | nil=>
     simp only [Option.some.injEq] at h
     refine skip h.symm fun t2 e=>?_
     rw [hX t2 e]
    | cons _ _=>cases h
   | _=>cases h
theorem opD_look {rec:Rec}(f:FuncId)(os:Array Oper)(i:Nat)(o:Oper)(ho:os[i]? =some o)(st st1:St)(hc:cls P H f o<3)(h:opD P H rec f os i st=some st1):
  ∃v,st1=st.put o.dst v/\∀st2:St,(∀t∈o.looksAt os,st2.t.getD t (.undef,.no)=st.t.getD t (.undef,.no))->(cls P H f o=1->st2.a=st.a)->(cls P H f o=2->st2.s=st.s) ->
   opD P H rec f os i st2=some (st2.put o.dst v):=by
 unfold opD at h
 rw [ho] at h
 simp only [Option.bind_some] at h
 cases hg:o.guard with
 | none=>
  rw [hg] at h
  obtain ⟨v,e1,e2⟩:=bp5 f o st st1 hc h
  refine ⟨v,e1,fun st2 hl ha hs=>?_⟩
  unfold opD
  rw [ho]
  simp only [Option.bind_some,hg]
  exact e2 st2 (fun t ht=>hl t (List.mem_append_left _ ht)) ha hs
 | some jw=>
  obtain ⟨j,want⟩:=jw
  rw [hg] at h
  simp only at h
  cases hd:(os[j]?).bind (·.dst) with
  | none=>rw [hd] at h;cases h
  | some d=>
   rw [hd] at h
   simp only [Option.map_some] at h
   have hin:d∈o.looksAt os:=by
    unfold Oper.looksAt
    rw [hg]
    simp only
    rw [hd]
    simp
   have hX:∀st2:St,st2.t.getD d (.undef,.no)=st.t.getD d (.undef,.no)->opD P H rec f os i st2=(match (some ((st.t.getD d (.undef,.no)).1):Option V) with
     | some (.bool b)=>bif b==want then am2 P H rec f o st2 else some (st2.put o.dst (.tup [],.no))
     | some (.tup [])=>some (st2.put o.dst (.tup [],.no))
     | _=>none):=by
    intro st2 e
    unfold opD
    rw [ho]
    simp only [Option.bind_some,hg,hd,Option.map_some]
    rw [e]
    rfl
   generalize hz:(st.t.getD d (.undef,.no)).1=z at h hX
   cases z with
   | bool b=>
    simp only at h
    cases hb:(b==want) with
    | true=>
     rw [hb] at h
     obtain ⟨v,e1,e2⟩:=bp5 f o st st1 hc h
     refine ⟨v,e1,fun st2 hl ha hs=>?_⟩
     rw [hX st2 (hl d hin)]
     simp only [hb,cond_true]
     exact e2 st2 (fun t ht=>hl t (List.mem_append_left _ ht)) ha hs
    | false=>
     rw [hb] at h
     simp only [cond_false,Option.some.injEq] at h
     refine ⟨_,h.symm,fun st2 hl _ _=>?_⟩
     rw [hX st2 (hl d hin)]
     simp only [hb,cond_false]
   | tup vs=>
    cases vs with
    | nil=>
     simp only [Option.some.injEq] at h
     refine ⟨_,h.symm,fun st2 hl _ _=>?_⟩
     rw [hX st2 (hl d hin)]
    | cons _ _=>cases h
   | _=>cases h
theorem getD_put {st:St}{dst:Option Nat}{v:V×Tag}{t:Nat}(h:dst≠some t):(st.put dst v).t.getD t (.undef,.no)=st.t.getD t (.undef,.no):=by
 cases dst with
 | none=>rfl
 | some d=>
  simp only [St.put,List.getD_eq_getElem?_getD]
  rw [List.getElem?_set]
  have:d≠t:=fun e=>h (by rw [e])
  rw [if_neg this]
theorem put_put {st:St}{d1 d2:Option Nat}{v1 v2:V×Tag}(h:∀d,d1=some d->d2≠some d):(st.put d1 v1).put d2 v2=(st.put d2 v2).put d1 v1:=by
 cases d1 with
 | none=>rfl
 | some a=>
  cases d2 with
  | none=>rfl
  | some b=>
   simp only [St.put]
   rw [List.set_comm]
   exact fun e=>h a rfl (by rw [e])
theorem opD_swap {rec:Rec}(f:FuncId)(os:Array Oper)(p i:Nat)(o x:Oper)(ho:os[p]? =some o)(hx:os[i]? =some x)(hap:Oper.apart os o x=true)(hc:cls P H f o<3)
  (h1:cls P H f o=1->cls P H f x<3∨(turns H f x).1=false) (h2:cls P H f o=2->cls P H f x<3∨(turns H f x).2=false) (st sp spi:St) (hp:opD P H rec f os p st=some sp) (hi:opD P H rec f os i sp=some spi):
  ∃si,opD P H rec f os i st=some si/\opD P H rec f os p si=some spi:=by
 obtain ⟨v,rfl,hlook⟩:=opD_look f os p o ho st sp hc hp
 obtain ⟨s',u,e1,e2,e3,e4,e5,e6,e7⟩:=opD_frames f os i x hx _ spi hi
 obtain ⟨a1,a2,a3⟩:=Oper.apart_spec hap
 have hsp:∀t2,({st.put o.dst v with t:=t2}:St)= {st with t:=t2}:=fun t2=>by cases hd:o.dst<;>rfl
 have hst:({st with t:=st.t}:St)=st:=rfl
 have q:=e7 st.t (fun t ht=>(getD_put (fun e=>a1 t e ht)).symm)
 rw [hsp,hst] at q
 refine ⟨_,q,?_⟩
 have hl:=hlook (({s' with t:=st.t}:St).put x.dst u) (fun t ht=>getD_put (st:={s' with t:=st.t}) (fun e=>a3 t e ht)) (fun hc1=>?_) (fun hc2=>?_)
 ·rw [hl]
  congr 1
  rw [put_put (fun d hd e=>a2 d e hd)]
  subst e1
  congr 1
  cases hd:o.dst with
  | none=>rw [hd] at e2;simp only [St.put] at e2 ⊢;cases s';simp only at e2;subst e2;rfl
  | some d=>rw [hd] at e2;simp only [St.put] at e2 ⊢;cases s';simp only at e2;subst e2;rfl
 ·have:(({s' with t:=st.t}:St).put x.dst u).a=s'.a:=by cases x.dst<;>rfl
  rw [this]
  have hpa:(st.put o.dst v).a=st.a:=by cases o.dst<;>rfl
  rw [←hpa]
  rcases h1 hc1 with q | q
  ·rw [e6 q]
  ·exact e4 q
 ·have:(({s' with t:=st.t}:St).put x.dst u).s=s'.s:=by cases x.dst<;>rfl
  rw [this]
  have hpa:(st.put o.dst v).s=st.s:=by cases o.dst<;>rfl
  rw [←hpa]
  rcases h2 hc2 with q | q
  ·rw [e6 q]
  ·exact e5 q
def bp1 (P:Program)(H:ae2)(rec:Rec)(f:FuncId)(os:Array Oper)(K:St->Option Out)(out:Out):Nat->Array Bool->St->Prop
 | 0,S,st=>Region.ready .any os S=[]/\K st=some out
 | n+1,S,st=>(Region.ready .any os S=[]->K st=some out)/\∀i∈Region.ready .any os S,∃st',opD P H rec f os i st=some st'/\bp1 P H rec f os K out n (S.setIfInBounds i true) st'
theorem ready_size {os:Array Oper}{S:Array Bool}{i:Nat}(h:i∈Region.ready .any os S):i<S.size:=by
 obtain ⟨h1,_⟩:=mem_ready.1 h
 rcases Nat.lt_or_ge i S.size with q | q
 ·exact q
 ·rw [Array.getD_eq_getD_getElem?,Array.getElem?_eq_none q] at h1;simp at h1
theorem getD_set_same (S:Array Bool)(i:Nat)(hi:i<S.size)(d:Bool):(S.setIfInBounds i true).getD i d=true:=by
 simp [Array.getD_eq_getD_getElem?,hi]
theorem aU0 (S:Array Bool)(i j:Nat)(h:i≠j)(d:Bool):(S.setIfInBounds i true).getD j d=S.getD j d:=by
 simp [Array.getD_eq_getD_getElem?,h]
theorem aY2 (S:Array Bool)(i j:Nat)(d:Bool)(h:S.getD j d=true):(S.setIfInBounds i true).getD j d=true:=by
 by_cases e:i=j
 ·subst e
  rcases Nat.lt_or_ge i S.size with q | q
  ·exact getD_set_same S i q d
  ·simpa [Array.setIfInBounds,Nat.not_lt.2 q] using h
 ·rw [aU0 S i j e d];exact h
theorem ready_mono {os:Array Oper}{S:Array Bool}{i p:Nat}(hi:i∈Region.ready .any os S)(hne:p≠i):i∈Region.ready .any os (S.setIfInBounds p true):=by
 obtain ⟨h1,o,h2,h3⟩:=mem_ready.1 hi
 exact mem_ready.2 ⟨by rw [aU0 S p i hne];exact h1,o,h2,fun e he hb=>aY2 S p _ _ (h3 e he hb)⟩
theorem swap_ord {rec:Rec}(f:FuncId)(os:Array Oper)(K:St->Option Out)(out:Out)(p:Nat):∀(n:Nat) (S:Array Bool) (st sp:St),p∈Region.ready .any os S->free P H f os S p=true->opD P H rec f os p st=some sp ->
  bp1 P H rec f os K out n (S.setIfInBounds p true) sp->bp1 P H rec f os K out (n+1) S st:=by
 intro n
 induction n with
 | zero=>
  intro S st sp hp hf ho hall
  refine ⟨fun e=>(by rw [e] at hp;cases hp),fun i hi=>?_⟩
  by_cases e:p=i
  ·subst e;exact ⟨sp,ho,hall⟩
  ·have:=ready_mono hi e
   rw [hall.1] at this;cases this
 | succ n ih=>
  intro S st sp hp hf ho hall
  refine ⟨fun e=>(by rw [e] at hp;cases hp),fun i hi=>?_⟩
  by_cases e:p=i
  ·subst e;exact ⟨sp,ho,hall⟩
  ·obtain ⟨spi,hpi,hall2⟩:=hall.2 i (ready_mono hi e)
   obtain ⟨hi1,x,hx,hdeps⟩:=mem_ready.1 hi
   obtain ⟨hp1,_,_,_⟩:=mem_ready.1 hp
   have hf0:=hf
   unfold free at hf
   cases hop:os[p]? with
   | none=>rw [hop] at hf;cases hf
   | some o=>
    rw [hop] at hf
    simp only [Bool.and_eq_true,List.all_eq_true,List.mem_range] at hf
    obtain ⟨hc,hall3⟩:=hf
    have hc:cls P H f o<3:=by rw [Nat.blt_eq] at hc;exact hc
    have hilt:i<os.size:=(Array.getElem?_eq_some_iff.1 hx).1
    have:=hall3 i hilt
    have hpS:S.getD p false=false:=by
     have:=ready_size hp
     rw [Array.getD_eq_getD_getElem?,Array.getElem?_eq_getElem this] at hp1 ⊢
     simpa using hp1
    rw [hx] at this
    simp only [Bool.or_eq_true,beq_iff_eq] at this
    have hnd:¬(x.after.any fun e=>Region.binds .any e&&e.on==p)=true:=by
     intro h
     obtain ⟨ed,he,hb⟩:=Array.any_eq_true'.1 h
     simp only [Bool.and_eq_true,beq_iff_eq] at hb
     have:=hdeps ed he hb.1
     rw [hb.2,hpS] at this;cases this
    rcases this with (q | q) | q
    ·exact absurd q.symm e
    ·rw [hi1] at q;cases q
    ·rcases q with q | q
     ·exact absurd q hnd
     ·rw [Bool.and_eq_true] at q
      obtain ⟨hap,hcl⟩:=q
      obtain ⟨si,hsi,hsp⟩:=opD_swap f os p i o x hop hx hap hc (fun h1=>by
        rw [h1] at hcl;simp only [Bool.or_eq_true,Nat.blt_eq,Bool.not_eq_true'] at hcl;exact hcl) (fun h2=>by
        rw [h2] at hcl;simp only [Bool.or_eq_true,Nat.blt_eq,Bool.not_eq_true'] at hcl;exact hcl) st sp spi ho hpi
      refine ⟨si,hsi,ih (S.setIfInBounds i true) si spi (ready_mono hp (fun q=>e q.symm)) ?_ hsp ?_⟩
      ·unfold free
       rw [hop]
       simp only [Bool.and_eq_true,List.all_eq_true,List.mem_range]
       refine ⟨by rw [Nat.blt_eq];exact hc,fun j hj=>?_⟩
       have:=hall3 j hj
       simp only [Bool.or_eq_true] at this ⊢
       rcases this with (q | q) | q
       ·exact .inl (.inl q)
       ·exact .inl (.inr (aY2 S i j _ q))
       ·exact .inr q
      ·have hcomm:(S.setIfInBounds i true).setIfInBounds p true=(S.setIfInBounds p true).setIfInBounds i true:=by
        apply Array.ext_getElem?
        intro j
        simp only [Array.getElem?_setIfInBounds,Array.size_setIfInBounds]
        split<;>split<;>simp_all
       rw [hcomm];exact hall2
theorem drawn_ord {rec:Rec}(f:FuncId)(os:Array Oper)(K:St->Option Out)(out:Out):∀(n:Nat) (S:Array Bool) (st:St),drawn P H rec f os K n S st=some out->bp1 P H rec f os K out n S st:=by
 intro n
 induction n with
 | zero=>
  intro S st h
  unfold drawn at h
  obtain ⟨h1,h2⟩:=aa2 h
  exact ⟨by simpa using h1,h2⟩
 | succ n ih=>
  intro S st h
  unfold drawn at h
  generalize hr:Region.ready .any os S=l at h
  cases l with
  | nil=>exact ⟨fun _=>h,fun i hi=>by rw [hr] at hi;cases hi⟩
  | cons a r=>
   simp only at h
   split at h
   ·rename_i p hp
    have hmem:=List.mem_of_find?_eq_some hp
    have hfree:=List.find?_some hp
    obtain ⟨sp,h1,h2⟩:=Option.bind_eq_some_iff.1 h
    exact swap_ord f os K out p n S st sp (by rw [hr];exact hmem) hfree h1 (ih _ _ h2)
   ·refine ⟨fun e=>(by rw [hr] at e;cases e),fun i hi=>?_⟩
    rw [hr] at hi
    have:=aW2 _ h _ (List.mem_map_of_mem hi)
    obtain ⟨si,h1,h2⟩:=Option.bind_eq_some_iff.1 this
    exact ⟨si,h1,ih _ _ h2⟩
end
end Go.Proofs.YtnpjififnhjbbaaDoor.E
namespace Go.Proofs.YtnpjififnhjbbaaDoor.E
open Go
section
variable {P:Program} {H:ae2} {mo:Nat->Nat->Prop} {acc:Own} {w0:World} {own:Own} {st:St} {a:Act} {w:World}
theorem putObj_same {b:Nat}{o o':Obj}(h:w.heap[b]? =some o):(w.putObj b o').heap[b]? =some o':=World.putObj_heap_same (Array.getElem?_eq_some_iff.1 h).1
theorem putObj_size (b:Nat)(o:Obj):(w.putObj b o).heap.size=w.heap.size:=by simp [World.putObj]
theorem aE7 {b:Nat}{o o':Obj}(h:w.heap[b]? =some o)(hc:∀cs T fr,o≠.cells cs T fr){b' x:Nat}{v:Value}(hv:w.cell? ⟨b',x,none⟩=some v):(w.putObj b o').cell? ⟨b',x,none⟩=some v:=by
 have hne:b'≠b:=by
  rintro rfl
  unfold World.cell? at hv
  simp only [show w.heap[b']? =some o from h] at hv
  cases o<;>first | exact hc _ _ _ rfl | simp at hv
 unfold World.cell? at hv ⊢
 simp only [World.putObj_heap_other hne]
 exact hv
theorem Post.putObj (h:Base mo own w){b:Nat}{o o':Obj}(hb:w.heap[b]? =some o)(hc:∀cs T fr,o≠.cells cs T fr)(T:Key->Prop)(hk:∀k r,k.live=true->own k=some r->r.1=b->T k)
  (hn:(∃x,own.has b x)):Post mo own w own (w.putObj b o') T where
 keep:=⟨rfl,rfl,rfl,Nat.le_of_eq (putObj_size b o').symm,fun b' _ ha=>World.putObj_heap_other (fun e=>by subst e;obtain ⟨x,hx⟩:=hn;exact ha x hx),fun b' x v hv _=>aE7 hb hc hv⟩
 sub b x hx:=.inl hx
 subB k r l e:=.inl ⟨k,r,l,e,rfl⟩
 rho _ _ e:=e
 same k r e hT:=⟨e,fun l=>World.putObj_heap_other (fun q=>hT (hk k r l e q))⟩
 new _ _ e:=e
 base:=⟨h.inj,h.gone,fun k r e=>by rw [putObj_size];exact h.lt k r e,h.off,fun k r e hr=>by
  obtain ⟨h1,cs,T,h2,h3⟩:=h.room k r e hr
  refine ⟨h1,cs,T,?_,h3⟩
  rw [World.putObj_heap_other (fun q=>by rw [q] at h2;rw [hb] at h2;injection h2 with h2;exact hc _ _ _ h2)]
  exact h2⟩
theorem aX8 (r:Loop):∀cs T fr,Obj.loop r≠.cells cs T fr:=by intro cs T fr h;cases h
theorem FR.bu8 (h:FR P H mo acc w0 own st a w){id:Nat}{f:FuncId}{ps:List Nat}{t:List V}{q:Nat}{pend:Option (Option Nat)}(hs:st.s[id]? =some (.loop f ps t q pend)):
  ∃b r,own (.obj id)=some (b,0,1)/\w.heap[b]? =some (.loop r)/\r.state=aW7 q/\r.pending=aM9 pend/\r.params=ps.toArray/\aH0 ps (rfs (aD4 P f))=some (r.assign,r.body)/\LRel (Mut mo own) own w t r.tmps /\
   ∀q' pend' r',r'= {r with state:=aW7 q',pending:=aM9 pend'} ->
    FR P H mo acc w0 own {st with s:=st.s.set id (.loop f ps t q' pend')} a (w.putObj b (.loop r')) /\
    FR P H mo acc w0 own {st with s:=st.s.set id .gone} a (w.putObj b (.loop r')):=by
 obtain ⟨b,r,h1,h2,h3,h4,h5,h6,h7⟩:=h.sr.objs id _ hs
 have hT:∀k r',k.live=true->own k=some r'->r'.1=b->k=.obj id:=fun k r' l e q=>h.sr.base.inj k r' (.obj id) _ l rfl e h1 q
 have hlen:=(List.getElem?_eq_some_iff.1 hs).1
 have go:∀(r':Loop) (o':O),(∀own',own'=own->aP0 P (Mut mo own) own (w.putObj b (.loop r')) id o')->(∀cs,o'≠.box cs)->FR P H mo acc w0 own {st with s:=st.s.set id o'} a (w.putObj b (.loop r')):=by
  intro r' o' ho' hbox
  have p:Post mo own w own (w.putObj b (.loop r')) (·=.obj id):=Post.putObj h.sr.base h2 (aX8 r) _ hT ⟨0,.obj id,_,h1,rfl,Nat.le_refl _,Nat.one_pos⟩
  refine h.post p rfl rfl (Nat.le_refl _) (fun g _ hm=>⟨hm,by simp⟩) h.tokLt (fun g hm=>h.newTok g hm) (fun i r e=>e) (fun i box hb=>.inl ⟨hb,by simp⟩) (fun i hi=>h.newLoc i hi) ?_ ?_ ?_
  ·intro j o ho
   simp only [List.getElem?_set] at ho
   by_cases e:id=j
   ·subst e
    rw [if_pos rfl,if_pos hlen] at ho
    injection ho with ho
    subst ho
    exact .inr (ho' own rfl)
   ·rw [if_neg e] at ho
    exact .inl ⟨ho,by simp;exact fun q=>e q.symm,by simp⟩
  ·intro j hj
   exact h.sr.newObj j (by simpa using hj)
  ·intro j off r e
   obtain ⟨cs,v,c1,c2⟩:=h.sr.spare j off r e
   refine ⟨cs,v,?_,c2⟩
   simp only [List.getElem?_set]
   rw [if_neg (by rintro rfl;rw [hs] at c1;cases c1)]
   exact c1
 refine ⟨b,r,h1,h2,h3,h4,h5,h6,h7,fun q' pend' r' hr'=>?_⟩
 have p:Post mo own w own (w.putObj b (.loop r')) (·=.obj id):=Post.putObj h.sr.base h2 (aX8 r) _ hT ⟨0,.obj id,_,h1,rfl,Nat.le_refl _,Nat.one_pos⟩
 exact ⟨go r' _ (fun _ _=>⟨b,r',h1,putObj_same h2,by rw [hr'],by rw [hr'],by rw [hr'];exact h5,by rw [hr'];exact h6,by rw [hr'];exact h7.1,fun j v x hv hx=>by
   rw [hr'] at hx
   exact (h7.2 j v x hv hx).imp (fun e=>e) p.stay.v⟩) (by simp),go r' .gone (fun _ _=>trivial) (by simp)⟩
theorem saveV_rel {M:Nat->Nat->Prop}{v:V}{x:Value}(h:XRel M own w v x):bt8 v=.undef∨VRel M own.rho w (bt8 v) x:=by
 cases v<;>first | exact .inl rfl | exact .inr h
theorem FR.enterLoop (h:FR P H mo acc w0 own st a w)(fn f:FuncId)(ps:Array Tmp)(ca cb:Code)(hf:aH0 ps.toList (rfs (aD4 P f))=some (ca,cb)):
  ∃own',FR P H mo acc w0 own' {st with s:=st.s++[.loop f ps.toList (st.t.map fun p=>bt8 p.1) 0 none],d:=(0,[.undef])::st.d} {a with defers:=[{target:=.collected w.heap.size,args:=#[]}]++a.defers}
    ((w.alloc (.deferred (some []))).alloc (.loop {state:=.ready,pending:=none,fn,tmps:=a.tmps,params:=ps,assign:=ca,body:=cb,defers:=w.heap.size})) /\
   own'.rho st.s.length=some (w.heap.size+1,1)/\Stay mo own own' w ((w.alloc (.deferred (some []))).alloc (.loop {state:=.ready,pending:=none,fn,tmps:=a.tmps,params:=ps,assign:=ca,body:=cb,defers:=w.heap.size})):=by
 have h1:=h.alloc (.deferred (some []))
 generalize hw1:w.alloc (.deferred (some []))=w1 at h1
 have hsz:w1.heap.size=w.heap.size+1:=by rw [←hw1];exact size_alloc _
 have hmo:∀b x,mo b x->b<w1.heap.size:=fun b x hm=>Nat.lt_of_lt_of_le (h1.mlt b x hm) h1.keep.size
 obtain ⟨hk,hgh⟩:=h1.sr.newObj _ (Nat.le_refl st.s.length)
 generalize hlo:Obj.loop {state:=.ready,pending:=none,fn,tmps:=a.tmps,params:=ps,assign:=ca,body:=cb,defers:=w.heap.size}=lo
 have p:=Post.aE1 (mo:=mo) h1.sr.base hmo lo (.obj st.s.length) hk 0 1 (by simp [Key.room]) (fun id e=>by injection e with e;subst e;exact Own.aQ7 hk hgh)
 have hst:Stay mo own (own.set (.obj st.s.length) (some (w1.heap.size,0,1))) w (w1.alloc lo):=by
  have s1:Stay mo own own w w1:=by rw [←hw1];exact aU6 h _
  have s2:=p.stay
  exact ⟨fun b x v hc hm=>(let ⟨e1,e2⟩:=s1.cell b x v hc hm;s2.cell b x v e1 e2),fun id b e=>s2.rho id b (s1.rho id b e)⟩
 refine ⟨own.set (.obj st.s.length) (some (w1.heap.size,0,1)),?_,by rw [Own.aj0 (Own.ab7 _ _ _),hsz],hst⟩
 have hfr:FR P H mo acc w0 (own.set (.obj st.s.length) (some (w1.heap.size,0,1))) {st with s:=st.s++[.loop f ps.toList (st.t.map fun p=>bt8 p.1) 0 none]} a (w1.alloc lo):=by
  refine h1.post p rfl rfl (Nat.le_refl _) (fun g _ hm=>⟨hm,by simp⟩) h1.tokLt (fun g hm=>by rw [Own.ab6 _ _ (by simp)];exact h1.newTok g hm) (fun i r e=>by rw [Own.ab6 _ _ (by simp)];exact e)
   (fun i box hb=>.inl ⟨hb,by simp⟩) (fun i hi=>by rw [Own.ab6 _ _ (by simp)];exact h1.newLoc i hi) ?_ ?_ ?_
  ·intro id o ho
   rw [List.getElem?_append] at ho
   split at ho
   ·exact .inl ⟨ho,by simp;omega,by simp⟩
   ·have:id=st.s.length:=by
     have:=(List.getElem?_eq_some_iff.1 ho).1
     simp at this;omega
    subst this
    simp at ho
    subst ho
    refine .inr ⟨w1.heap.size,_,by rw [Own.ab7],by rw [←hlo];exact heap_alloc_new _,rfl,rfl,by simp,hf,by simp [h.size],fun j v x hv hx=>?_⟩
    rw [List.getElem?_map] at hv
    obtain ⟨q,hq,rfl⟩:=Option.map_eq_some_iff.1 hv
    have:=(h.slot j q.1 q.2 x hq hx).1
    exact (saveV_rel this).imp (fun e=>e) hst.v
  ·intro id hi
   simp at hi
   exact at1 (by simp;omega) (by simp) (h1.sr.newObj id (by omega))
  ·intro id off r e
   rw [Own.ab6 _ _ (by simp)] at e
   obtain ⟨cs2,v,c1,c2⟩:=h1.sr.spare id off r e
   exact ⟨cs2,v,by rw [List.getElem?_append_left (List.getElem?_eq_some_iff.1 c1).1];exact c1,c2⟩
 exact {hfr with
  dsize:=by simp [h.dsize]
  dfr:=fun i d d' e1 e2=>by
   cases i with
   | zero=>
    simp only [List.getElem?_cons_zero,Option.some.injEq,List.cons_append,List.nil_append] at e1 e2
    subst e1;subst e2
    refine .inl ⟨rfl,_,rfl,h.keep.size,?_,fun x hx=>?_⟩
    ·rw [ap2 _ (by omega),←hw1]
     exact heap_alloc_new _
    ·obtain ⟨k,r,e,hr⟩:=hx
     by_cases q:k=.obj st.s.length
     ·subst q
      rw [Own.ab7] at e
      injection e with e
      subst e
      have:=hr.1
      simp only at this
      omega
     ·rw [Own.ab6 _ _ q] at e
      have:=h.sr.base.lt _ _ e
      have:=hr.1
      omega
   | succ i=>exact hfr.dfr i d d' (by simpa using e1) (by simpa using e2)
  marks:=fun i j d d' r e1 e2 t1 t2=>by
   have old:∀(k:Nat) (d:Deferred),a.defers[k]? =some d->d.target≠.collected w.heap.size:=by
    intro k d hd q
    have hk:=(List.getElem?_eq_some_iff.1 hd).1
    rw [h.dsize] at hk
    rcases h.dfr k _ d (List.getElem?_eq_getElem hk) hd with ⟨_,r,z1,_,z2,_⟩ | ⟨cap,z1,_⟩
    ·rw [z1] at q
     injection q with q
     have:=(Array.getElem?_eq_some_iff.1 z2).1
     omega
    ·rw [z1] at q;cases q
   cases i with
   | zero=>
    simp only [List.getElem?_cons_zero,Option.some.injEq,List.cons_append,List.nil_append] at e1
    subst e1
    injection t1 with t1
    subst t1
    cases j with
    | zero=>rfl
    | succ j=>exact absurd t2 (old j d' (by simpa using e2))
   | succ i=>cases j with
    | zero=>
     simp only [List.getElem?_cons_zero,Option.some.injEq,List.cons_append,List.nil_append] at e2
     subst e2
     injection t2 with t2
     subst t2
     exact absurd t1 (old i d (by simpa using e1))
    | succ j=>rw [h.marks i j d d' r (by simpa using e1) (by simpa using e2) t1 t2]}
end
end Go.Proofs.YtnpjififnhjbbaaDoor.E
namespace Go.Proofs.YtnpjififnhjbbaaDoor.E
open Go
section
variable {P:Program} {H:ae2} {mo:Nat->Nat->Prop} {acc:Own} {w0:World} {own:Own} {st:St} {a:Act} {w:World}
theorem opD_run (hH:HOk P H){rec:Rec}(hrec:aH8 P H rec)(ro:Option Nat)(h:FR P H mo acc w0 own st a w)(f:FuncId)(os:Array Oper)(i:Nat)(st1:St)(hs:opD P H rec f os i st=some st1)(next:Act->World->Prop)(Q:Exit->Act->World->Prop)
  (hn:∀(own':Own) (a':Act) (w':World),FR P H mo acc w0 own' st1 a' w'->next a' w'):wpOpIn (FW ro) 0 P os Q i next a w:=by
 unfold opD at hs
 obtain ⟨o,ho,hs⟩:=Option.bind_eq_some_iff.1 hs
 unfold wpOpIn
 simp only [ho]
 have go:am2 P H rec f o st=some st1->o.wpIn (FW ro) 0 P a w next Q:=by
  intro hd
  classical
  let out:Out:=.ret [] []
  have hk:=bp4 (inr:=ro.isSome) hd (fun st'=>if st'=st1 then some out else none) (fun _ _=>none)
  rw [if_pos rfl] at hk
  have hw:=step_run hH hrec ro h f o _ (fun _ _=>none) out hk next (fun st' own' a' w' hf hq=>by
   split at hq
   ·rename_i e;subst e;exact hn own' a' w' hf
   ·cases hq)
  refine ⟨hw.1,?_⟩
  have hw:=hw.2
  have hQ:∀e a w,¬QK P H mo acc w0 (fun _ _=>none) out e a w:=by
   intro e a w hq
   cases e with
   | normal=>obtain ⟨_,_,_,q⟩:=hq;cases q
   | exit id=>obtain ⟨_,_,_,q⟩:=hq;cases q
   | ret=>obtain ⟨_,_,_,q⟩:=hq;cases q
   | panic ch=>obtain ⟨_,_,_,_,_,_,_,q⟩:=hq;cases q
   | goto l=>exact hq
   | outgrown=>exact hq
  generalize (o.semAt (FW ro).round a.eval).run P w=r at hw ⊢
  cases r with
  | ok x w'=>
   cases x<;>simp only [Oper.uponIn] at hw ⊢ <;>
    first
     | exact hw
     | exact ⟨hw.1,CallsIn.mono hw.2 (fun e w'' he=>by cases e<;>first | exact he | exact (hQ _ _ _ he).elim | (obtain ⟨_,_,q⟩:=he;exact (hQ _ _ _ q).elim))⟩
     | exact ⟨hw.1,RoundIn.mono hw.2 (fun e w'' he=>by cases e<;>first | exact he | exact (hQ _ _ _ he).elim | (obtain ⟨_,_,q⟩:=he;exact (hQ _ _ _ q).elim))⟩
  | halt x w'=>cases x<;>simp only [Oper.uponIn] at hw ⊢ <;>first | exact hw | exact (hQ _ _ _ hw).elim
 have skip:st.put o.dst (.tup [],.no)=st1->next (a.put o.dst undef) w:=fun e=>by
  subst e
  exact hn _ _ _ (h.put o.dst (.tup []) .no undef (XRel.of (.tup [] #[] rfl fun j x y hx=>by simp at hx)) trivial)
 cases hg:o.guard with
 | none=>
  rw [hg] at hs
  rw [if_pos (by simp [Region.wanted,hg])]
  exact go hs
 | some g=>
  obtain ⟨j,want⟩:=g
  rw [hg] at hs
  simp only at hs
  have hy:∀d,(os[j]?).bind (·.dst)=some d->∀x,a.tmps[d]? =some x->yielded os a.tmps j=(match x with | .bool b=>some b | _=>none):=by
   intro d e x ex
   unfold yielded
   rw [e]
   simp only [Option.bind_some,ex]
   cases x<;>rfl
  cases hd2:(os[j]?).bind (·.dst) with
  | none=>rw [hd2] at hs;simp at hs
  | some d=>
   rw [hd2] at hs
   simp only [Option.map_some] at hs
   have ht:=(h.tmp d).1
   have hin:∀v,(st.t.getD d (.undef,.no)).1=v->v≠.undef->∃x,a.tmps[d]? =some x/\a.tmps.getD d undef=x:=by
    intro v hv hne
    have hlt:d<st.t.length:=by
     rcases Nat.lt_or_ge d st.t.length with q | q
     ·exact q
     ·rw [List.getD_eq_getElem?_getD,List.getElem?_eq_none q] at hv
      exact absurd hv.symm hne
    have:d<a.tmps.size:=by rw [h.size];exact hlt
    exact ⟨a.tmps[d],Array.getElem?_eq_getElem this,by simp [Array.getD_eq_getD_getElem?,this]⟩
   split at hs
   ·rename_i b hb
    simp only [Option.some.injEq] at hb
    obtain ⟨x,ex,exd⟩:=hin _ hb (by simp)
    rw [hb,exd] at ht
    have:=aS9 ht
    subst this
    have hyb:=hy d hd2 _ ex
    simp only at hyb
    cases hbw:b==want with
    | true=>
     rw [hbw] at hs
     rw [if_pos (by simp only [Region.wanted,hg,hyb];simpa using hbw)]
     exact go hs
    | false=>
     rw [hbw] at hs
     simp only [cond_false,Option.some.injEq] at hs
     rw [if_neg (by simp only [Region.wanted,hg,hyb];simpa using hbw)]
     exact ⟨fun f _=>br9 ro f,skip hs⟩
   ·rename_i hb
    simp only [Option.some.injEq] at hb hs
    obtain ⟨x,ex,exd⟩:=hin _ hb (by simp)
    rw [hb,exd] at ht
    have hxu:x=.tuple #[]:=by
     cases ht with
     | tup _ cs' hs2 _=>
      have:cs'= #[]:=Array.size_eq_zero_iff.1 (by simpa using hs2)
      rw [this]
    subst hxu
    have hyb:=hy d hd2 _ ex
    rw [if_neg (by simp [Region.wanted,hg,hyb])]
    exact ⟨fun f _=>br9 ro f,skip hs⟩
   ·cases hs
theorem drawn_run (hH:HOk P H){rec:Rec}(hrec:aH8 P H rec)(ro:Option Nat)(f:FuncId)(os:Array Oper)(K:St->Option Out)(KP:Cont)(out:Out)(hK:∀(own:Own) (st:St) (a:Act) (w:World),FR P H mo acc w0 own st a w->K st=some out->QK P H mo acc w0 KP out .normal a w)
  (own:Own) (st:St) (a:Act) (w:World) (h:FR P H mo acc w0 own st a w) (hs:drawn P H rec f os K os.size (Array.replicate os.size false) st=some out):
  wpAnyIn (FW ro) 0 P .any os (QK P H mo acc w0 KP out) os.size (Array.replicate os.size false) a w:=by
 have:=drawn_ord f os K out _ _ _ hs
 clear hs
 generalize os.size=n at this
 generalize Array.replicate n false=S at this
 revert this
 revert own st a w
 have key:∀(n:Nat) (S:Array Bool) (own:Own) (st:St) (a:Act) (w:World),FR P H mo acc w0 own st a w->bp1 P H rec f os K out n S st->wpAnyIn (FW ro) 0 P .any os (QK P H mo acc w0 KP out) n S a w:=by
  intro n
  induction n with
  | zero=>exact fun S own st a w h hall=>⟨hall.1,hK own st a w h hall.2⟩
  | succ n ih=>
   intro S own st a w h hall
   refine ⟨fun e=>hK own st a w h (hall.1 e),fun i hi=>?_⟩
   obtain ⟨st',h1,h2⟩:=hall.2 i hi
   exact opD_run hH hrec ro h f os i st' h1 _ _ fun own' a' w' h'=>ih _ _ _ _ _ h' h2
 intro own st a w h hall
 exact key _ _ own st a w h hall
theorem bc1 :∀l:List Nat,eqNs l l=true
 | []=>rfl
 | a::r=>by simp only [eqNs,Bool.and_eq_true];exact ⟨Nat.beq_refl a,bc1 r⟩
theorem eqNs_eq :∀a b:List Nat,eqNs a b=true->a=b
 | [],[],_=>rfl
 | [],_::_,h=>by cases h
 | _::_,[],h=>by cases h
 | v::r,v'::r',h=>by
  simp only [eqNs,Bool.and_eq_true] at h
  rw [Nat.eq_of_beq_eq_true h.1,eqNs_eq _ _ h.2]
theorem by7 :∀(l:List (Array Tmp×Code×Code)) (x:Array Tmp×Code×Code),aK8 l=true->x∈l->aH0 x.1.toList l=some x.2
 | [],x,_,h=>by cases h
 | y::r,x,hd,h=>by
  simp only [aK8,Bool.and_eq_true,List.all_eq_true] at hd
  simp only [aH0]
  rcases List.mem_cons.1 h with e | e
  ·subst e;rw [bc1];rfl
  ·have:=hd.1 x e
   cases q:eqNs y.1.toList x.1.toList with
   | false=>exact by7 r x hd.2 e
   | true=>
    rw [eqNs_eq _ _ q,bc1] at this
    cases this
theorem exitK_of :∀(es:List Nat) (e:Nat) (F:Nat->Option Out) {o:Out},bc0 es e F=some o->F e=some o
 | [],e,F,o,h=>by cases h
 | a::r,e,F,o,h=>by
  simp only [bc0] at h
  cases q:Nat.beq a e with
  | true=>rw [q] at h;rw [←Nat.eq_of_beq_eq_true q];exact h
  | false=>rw [q] at h;exact exitK_of r e F h
theorem rangeV_run (hH:HOk P H){rec:Rec}(hrec:aH8 P H rec)(ro:Option Nat)(f:FuncId)(g:Operand)(ps:Array Tmp)(ca cb:Code)(hsub:ro=none->(ps,ca,cb)∈rfs (aD4 P f))(es:List Nat)(K:Cont)(out:Out)
  (h:FR P H mo acc w0 own st a w) (hs:ax9 P H rec ro.isSome f g ps.toList es K st=some out):(Code.rangeFunc g ps ca cb).wpIn (FW ro) 0 P (QK P H mo acc w0 K out) a w:=by
 unfold ax9 at hs
 have hck0:=aa2 hs
 clear hs
 obtain ⟨h0,hs⟩:=hck0
 rw [Bool.and_eq_true] at h0
 have hro:ro=none:=by cases ro with | none=>rfl | some l=>simp at h0
 subst hro
 have hfind:=by7 _ _ h0.2 (hsub rfl)
 simp only at hfind
 have hgv:=(h.ev g).1
 split at hs
 ·rename_i hf first cap e
  rw [e] at hgv
  generalize hz:a.eval g=z at hgv
  cases hgv with
  | func _ _ _ first' cap' hx hy x1 x2=>
  have hck1:=aa2 hs
  clear hs
  obtain ⟨h1,hs⟩:=hck1
  simp only [Bool.and_eq_true,Bool.not_eq_true'] at h1
  obtain ⟨⟨hok,hown⟩,hall⟩:=h1
  obtain ⟨out0,ho,hs⟩:=Option.bind_eq_some_iff.1 hs
  refine wpIn_rangeFunc fun fn _=>?_
  obtain ⟨own1,f1,r1,s1⟩:=h.enterLoop fn f ps ca cb hfind
  have hen:=run_enterLoop_outer (P:=P) (w:=w) fn a.tmps ps ca cb
  generalize ((w.alloc (.deferred (some []))).alloc (.loop {state:=.ready,pending:=none,fn,tmps:=a.tmps,params:=ps,assign:=ca,body:=cb,defers:=w.heap.size}))=w1 at f1 s1 hen
  refine ⟨w.heap.size+1,_,w1,{target:=.fn (.func hf) cap',args:=first'++#[.func (.yield (w.heap.size+1)) #[] #[]]},w1,hf,first'++#[.func (.yield (w.heap.size+1)) #[] #[]]++cap',w1,
   hen,?_,fun f' _=>br9 none f',?_,(fun hd=>by rw [bp0] at hd;cases hd),?_⟩
  ·show (resolve a.eval (rangeCall g (w.heap.size+1)) 0).run P _=_
   unfold resolve rangeCall
   simp only [hz]
   have:Array.map a.eval #[Operand.const (Value.func (Fn.yield (w.heap.size+1)) #[] #[])]= #[.func (.yield (w.heap.size+1)) #[] #[]]:=by simp [Act.eval]
   rw [this]
   rfl
  ·exact hH.ok hf hok _ _
  obtain ⟨c1,c2,c3,c4⟩:=f1.callee
  have rho1:own1.rho st.s.length=some (w.heap.size+1,1):=r1
  have hargs:Args (Mut (moIn mo own1) own1.sh) own1.sh.rho w1 (first++[.yld st.s.length]++cap) (first'++#[.func (.yield (w.heap.size+1)) #[] #[]]++cap'):=by
   have k1:aB3 (Mut mo own1) own1 w1 first first':=⟨hx,fun j v x e1 e2=>XRel.of (s1.v (x1 j v x e1 e2))⟩
   have k2:aB3 (Mut mo own1) own1 w1 [.yld st.s.length] #[.func (.yield (w.heap.size+1)) #[] #[]]:=⟨rfl,fun j v x e1 e2=>by
    cases j with
    | zero=>cases e1;cases e2;exact XRel.of (.yld _ _ rho1)
    | succ j=>simp at e1⟩
   have k3:aB3 (Mut mo own1) own1 w1 cap cap':=⟨hy,fun j v x e1 e2=>XRel.of (s1.v (x2 j v x e1 e2))⟩
   have ka:=((k1.append k2).append k3).args (by
    rw [List.all_append,List.all_append]
    rw [List.all_append] at hall
    simp only [Bool.and_eq_true] at hall ⊢
    exact ⟨⟨hall.1,rfl⟩,hall.2⟩)
   exact ⟨ka.1,fun j v x e1 e2=>(ka.2 j v x e1 e2).keep (fun b x v hc hm=>⟨hc,by rw [aG3];exact hm⟩) (fun id b e=>by rw [Own.sh_rho];exact e)⟩
  refine CallsIn.mono (FW_calls (hrec.fn hf (hH.fn hf hok) _ _ out0 ho (moIn mo own1) own1.sh w1 _ c1 c2 c3 hargs c4)) fun e' w' hp=>?_
  have hh:∀vs,ay5 H hf vs=false:=fun vs=>by unfold ay5;rw [hown];rfl
  cases out0 with
  | pan v s'=>
   obtain ⟨own',x,rfl,p,hv,q0⟩:=hp
   obtain ⟨f2,f3⟩:=f1.after p false (fun _=>q0)
   exact ⟨_,_,v,x,rfl,f2,f3 hv,hs⟩
  | ret vs s'=>
   obtain ⟨own',v',rfl,p,hv,q0,q1⟩:=hp
   obtain ⟨f2,f3⟩:=f1.after p false (fun _=>q0 (hh vs))
   unfold aR1 lpK at hs
   simp only at hs
   split at hs
   ·rename_i f' ps' t' q pend hl
    obtain ⟨hq,hs⟩:=aa2 hs
    have hq1:q≠1:=by
     rintro rfl
     cases hq
    have f2:FR P H mo acc w0 (own'.join own1 st.g) {st with s:=s',d:=(0,[.undef])::st.d} {a with defers:=[{target:=.collected w.heap.size,args:=#[]}]++a.defers} w':=f2
    obtain ⟨b,r,z1,z2,z3,z4,z5,z6,z7,z8⟩:=f2.bu8 hl
    have hb:b=w.heap.size+1:=by
     have e1:=p.rho _ _ (by rw [Own.sh_rho];exact rho1)
     have e2:(own'.join own1 st.g).rho st.s.length=own'.rho st.s.length:=Own.ap7 (by unfold Own.join;rw [if_neg (by simp)];rfl) (by unfold Own.join;rw [if_neg (by simp)];rfl)
     rw [←e2,Own.aj0 z1] at e1
     injection e1 with e1
     injection e1
    subst hb
    obtain ⟨_,f4⟩:=z8 3 pend _ rfl
    have hend:=run_endLoop (P:=P) z2 (by
     rw [z3]
     unfold aW7
     split<;>first | exact absurd rfl hq1 | (intro hc;cases hc))
    refine ⟨r.pending,_,hend,?_⟩
    have hr3:({r with state:=.exhausted}:Loop)= {r with state:=aW7 3,pending:=aM9 pend}:=by rw [←z4];rfl
    rw [hr3,z4]
    cases pend with
    | none=>exact ⟨_,_,f4,hs⟩
    | some j=>cases j with
     | none=>exact wpIn_ret ⟨_,_,f4,hs⟩
     | some e=>exact wpIn_exit ⟨_,_,f4,exitK_of es e _ hs⟩
   ·cases hs
 ·cases hs
theorem aP8 (hH:HOk P H){rec:Rec}(hrec:aH8 P H rec)(n:Nat)(ro:Option Nat)(f:FuncId)(out:Out)(c:Code):(ro=none->∀x∈rfs c,x∈rfs (aD4 P f))->∀(K:Cont) (own:Own) (st:St) (a:Act) (w:World),FR P H mo acc w0 own st a w->code P H rec n ro.isSome f c K st=some out->c.wpIn (FW ro) 0 P (QK P H mo acc w0 K out) a w:=by
 induction c with
 | skip=>exact fun _ K own st a w h hs=>wpIn_skip ⟨st,own,h,hs⟩
 | region id os d=>
  intro _ K own st a w h hs
  unfold code at hs
  cases d with
  | true=>
   simp only [cond_true] at hs
   refine wpIn_region_any hH.mixed ?_
   exact drawn_run hH hrec ro f os _ K out (fun own st a w h e=>h.behind f id K out e) own st a _ h.drew hs
  | false=>
   simp only [cond_false] at hs
   refine wpIn_region ?_
   have:=ops_run (mo:=mo) (acc:=acc) (w0:=w0) hH hrec ro f os (fun st'=>(behind (H.br f id) st').bind (K .normal)) K out (fun own st a w h e=>h.behind f id K out e) os.toList 0 own st a w rfl h hs
   rw [List.range_eq_range']
   simpa using this
 | seq x y ihx ihy=>
  intro hsub K own st a w h hs
  unfold code at hs
  refine wpIn_seq (wpIn_mono (ihx (fun e x hx=>hsub e x (List.mem_append_left _ hx)) _ own st a w h hs) fun e a' w' hq=>?_)
  cases e with
  | normal=>obtain ⟨st',own',h',hk⟩:=hq;exact ihy (fun e x hx=>hsub e x (List.mem_append_right _ hx)) K own' st' a' w' h' hk
  | exit id=>exact hq
  | ret=>exact hq
  | panic ch=>exact hq
  | goto l=>exact hq
  | outgrown=>exact hq
 | cond o x y ihx ihy=>
  intro hsub K own st a w h hs
  unfold code at hs
  split at hs
  ·rename_i b hb
   have hc:=(h.ev o).1
   rw [hb] at hc
   have:=aS9 hc
   refine wpIn_cond this ?_
   cases b with
   | true=>
    obtain ⟨st',own',h',hs'⟩:=h.branch f o true _ out hs
    exact ihx (fun e x hx=>hsub e x (List.mem_append_left _ hx)) K own' st' a w h' hs'
   | false=>
    obtain ⟨st',own',h',hs'⟩:=h.branch f o false _ out hs
    exact ihy (fun e x hx=>hsub e x (List.mem_append_right _ hx)) K own' st' a w h' hs'
  ·cases hs
 | block id c ih=>
  intro hsub K own st a w h hs
  unfold code at hs
  refine wpIn_block (wpIn_mono (ih hsub _ own st a w h hs) fun e a' w' hq=>?_)
  cases e with
  | normal=>exact hq
  | exit i=>
   obtain ⟨st',own',h',hk⟩:=hq
   unfold ay8 at hk
   simp only at hk
   by_cases e:i=id
   ·subst e
    simp only [beq_self_eq_true,cond_true] at hk
    simp only [Exit.inBlock,if_true]
    exact ⟨st',own',h',hk⟩
   ·have:(i==id)=false:=by simpa using e
    rw [this] at hk
    simp only [cond_false] at hk
    simp only [Exit.inBlock,if_neg e]
    exact ⟨st',own',h',hk⟩
  | ret=>exact hq
  | panic ch=>exact hq
  | goto l=>exact hq
  | outgrown=>exact hq
 | loop c ih=>
  intro hsub K own st a w h hs
  unfold code at hs
  refine wpIn_loop_rounds n ?_
  have key:∀(m:Nat) (own:Own) (st:St) (a:Act) (w:World),FR P H mo acc w0 own st a w->iter (code P H rec n ro.isSome f c) m K st=some out->Code.roundsIn (FW ro) 0 P c (QK P H mo acc w0 K out) m a w:=by
   intro m
   induction m with
   | zero=>intro own st a w h hs;simp [iter] at hs
   | succ m ihm=>
    intro own st a w h hs
    rw [roundsIn_succ]
    rw [iter] at hs
    refine wpIn_mono (ih hsub _ own st a w h hs) fun e a' w' hq=>?_
    cases e with
    | normal=>obtain ⟨st',own',h',hk⟩:=hq;exact ihm own' st' a' w' h' hk
    | exit id=>exact hq
    | ret=>exact hq
    | panic ch=>exact hq
    | goto l=>exact hq
    | outgrown=>exact hq
  exact key n own st a w h hs
 | exit id=>exact fun _ K own st a w h hs=>wpIn_exit ⟨st,own,h,hs⟩
 | ret=>exact fun _ K own st a w h hs=>wpIn_ret ⟨st,own,h,hs⟩
 | rangeFunc g ps ca cb _ _=>exact fun hsub K own st a w h hs=>rangeV_run hH hrec ro f g ps ca cb (fun e=>hsub e _ (List.mem_singleton.2 rfl)) _ K out h hs
 | scope _ _=>exact fun _ K own st a w h hs=>by simp [code] at hs
 | label _=>exact fun _ K own st a w h hs=>by simp [code] at hs
 | goto _=>exact fun _ K own st a w h hs=>by simp [code] at hs
 | refuse _=>exact fun _ K own st a w h hs=>by simp [code] at hs
end
end Go.Proofs.YtnpjififnhjbbaaDoor.E
