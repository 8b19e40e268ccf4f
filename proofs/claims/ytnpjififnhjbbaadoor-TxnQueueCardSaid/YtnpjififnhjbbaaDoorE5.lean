/- It is proved that a call comes to what the evaluator tells of it, deferred calls too. No condition beyond the lemmas' own. -/
import Derived.Test.YtnpjififnhjbbaaDoorE4
import Derived.RecoverIn
namespace Go.Proofs.YtnpjififnhjbbaaDoor.E
open Go
section
variable {P:Program} {H:ae2} {mo:Nat->Nat->Prop} {acc:Own} {w0:World} {own:Own} {st:St} {a:Act} {w:World}
theorem FR.ba9 (h:FR P H mo acc w0 own st a w):FR P (ba9 H) mo acc w0 own st a w:={h with}
theorem bj2 (h:FR P H mo acc w0 own st a w)(f:FuncId):∀(rs:List ResultVar) (vs:List (V×Tag)),resV P H f st rs=some vs ->
  ∃xs:List Value,(rs.mapM fun
   | .tmp t=>pure (a.tmps.getD t undef)
   | .cell c t=>do loadVar t (←asAddr (a.tmps.getD c undef)):Sem (List Value)).run P w=.ok xs w/\xs.length=vs.length /\
   ∀(j:Nat) (v:V) (tag:Tag) (x:Value),vs[j]? =some (v,tag)->xs[j]? =some x->XRel (Mut mo own) own w v x/\TRel own st.l st.g v tag x
 | [],vs,hr=>by
  simp [resV] at hr
  subst hr
  exact ⟨[],rfl,rfl,fun j v tag x hv=>by simp at hv⟩
 | .tmp t::r,vs,hr=>by
  rw [resV] at hr
  obtain ⟨vs',hv',rfl⟩:=Option.map_eq_some_iff.1 hr
  obtain ⟨xs,h1,h2,h3⟩:=bj2 h f r vs' hv'
  refine ⟨a.tmps.getD t undef::xs,?_,by simp [h2],fun j v tag x hv hx=>?_⟩
  ·rw [List.mapM_cons]
   refine (ab3 (w1:=w) (r:=a.tmps.getD t undef) rfl).trans ?_
   exact (ab3 h1).trans rfl
  ·cases j with
   | zero=>
    simp only [List.getElem?_cons_zero,Option.some.injEq] at hv hx
    subst hx
    have:=h.tmp t
    rw [hv] at this
    exact this
   | succ j=>exact h3 j v tag x (by simpa using hv) (by simpa using hx)
 | .cell c t::r,vs,hr=>by
  rw [resV] at hr
  obtain ⟨u,hu,hr⟩:=Option.bind_eq_some_iff.1 hr
  obtain ⟨vs',hv',rfl⟩:=Option.map_eq_some_iff.1 hr
  obtain ⟨xs,h1,h2,h3⟩:=bj2 h f r vs' hv'
  have hp:=(h.tmp c).1
  obtain ⟨x,own',u1,u2,u3,u4,u5,u6⟩:=bx1 h.ba9 f 0 t _ _ hp u.1 u.2 hu
  obtain ⟨rfl,hst⟩:=u6 rfl
  rw [hst] at u4
  have hrun:(do loadVar t (←asAddr (a.tmps.getD c undef)):Sem Value).run P w=.ok x w:=by
   generalize hz:a.tmps.getD c undef=z at u1
   unfold Instr.loadAt at u1
   cases z with
   | pointer p=>
    cases p with
    | some ad=>exact u1
    | none=>simp [Instr.sureAddr,stuck,Sem.run] at u1
   | _=>simp [Instr.sureAddr,stuck,Sem.run] at u1
  refine ⟨x::xs,?_,by simp [h2],fun j v tag y hv hx=>?_⟩
  ·rw [List.mapM_cons]
   refine (ab3 hrun).trans ?_
   exact (ab3 h1).trans rfl
  ·cases j with
   | zero=>
    simp only [List.getElem?_cons_zero,Option.some.injEq] at hv hx
    subst hx
    rw [hv] at u3 u4
    exact ⟨u3,u4⟩
   | succ j=>exact h3 j v tag y (by simpa using hv) (by simpa using hx)
theorem results_run (h:FR P H mo acc w0 own st a w)(f:FuncId)(fn:Func)(vs:List (V×Tag))(hr:resV P H f st fn.results.toList=some vs):
  ∃xs:List Value,(results fn a.tmps).run P w=.ok (if h:xs.length=1 then xs[0]'(by omega) else .tuple xs.toArray) w/\xs.length=vs.length /\
   ∀(j:Nat) (v:V) (tag:Tag) (x:Value),vs[j]? =some (v,tag)->xs[j]? =some x->XRel (Mut mo own) own w v x/\TRel own st.l st.g v tag x:=by
 obtain ⟨xs,h1,h2,h3⟩:=bj2 h f _ vs hr
 refine ⟨xs,?_,h2,h3⟩
 unfold results
 rw [Array.mapM_eq_mapM_toList]
 refine (ab3 (r:=xs.toArray) (w1:=w) ?_).trans ?_
 ·rw [map_eq_pure_bind]
  exact (ab3 h1).trans rfl
 ·by_cases hx:xs.length=1
  ·simp only [List.size_toArray,hx,dite_true]
   rfl
  ·simp only [List.size_toArray,hx,dite_false]
   rfl
theorem FR.start {s:List O}{args:List V}{args':Array Value}(m:Nat)(fn:Func)(h1:SR P mo own s w)(h2:∀k,k.ah6=false->own k=none)(h3:∀b x,mo b x->b<w.heap.size)(h4:Args (Mut mo own) own.rho w args args')(h5:Glob H (Mut mo own) own.rho w):
  FR P H mo own w own (start m args fn.ntmps s) {tmps:=args'++Array.replicate (fn.ntmps-args'.size) undef,defers:=[]} w where
 sr:=h1
 keep:=Keep.refl _ _
 old:=fun _ _ _ e=>e
 oldB:=fun k r l e _=>⟨k,r,l,e,rfl⟩
 mlt:=h3
 rho0:=fun _ _ e=>e
 size:=by simp [E.start,h4.1]
 slot i v tag x hv hx:=by
  simp only [E.start] at hv
  by_cases hi:i<args.length
  ·rw [List.getElem?_append_left (by simpa using hi),List.getElem?_map] at hv
   rw [Array.getElem?_append_left (by rw [h4.1];exact hi)] at hx
   obtain ⟨v',e,e2⟩:=Option.map_eq_some_iff.1 hv
   injection e2 with q1 q2
   subst q1;subst q2
   exact ⟨XRel.of (h4.2 i v' x e hx),trivial⟩
  ·rw [List.getElem?_append_right (by simpa using hi),List.getElem?_replicate] at hv
   split at hv
   ·injection hv with hv;injection hv with q1 q2;subst q1;subst q2;exact ⟨trivial,trivial⟩
   ·cases hv
 arena:=fun i box e=>by
  simp only [E.start] at e
  rw [List.getElem?_replicate] at e
  split at e
  ·injection e with e;subst e;exact fun q=>absurd rfl q
  ·cases e
 newTok:=fun g _=>h2 _ rfl
 tokLt:=fun g e=>by simp [E.start] at e
 newLoc:=fun i _=>h2 _ rfl
 dsize:=rfl
 dfr:=fun i d d' e=>by simp [E.start] at e
 marks:=fun i j d d' r e=>by simp at e
 glob:=h5
def Own.left (o:Own)(g:Option Nat):Own:=fun k=>if k=.tok 0 then (match g with | some g=>o (.tok g) | none=>none) else if k.ah6 then o k else none
theorem aV5 {o:Own}{g:Option Nat}{k:Key}{r:Reg}(h:o.left g k=some r):(k=.tok 0/\∃g',g=some g'/\o (.tok g')=some r)∨(k≠.tok 0/\k.ah6=true/\o k=some r):=by
 unfold Own.left at h
 split at h
 ·rename_i e
  cases g with
  | none=>simp at h
  | some g=>exact .inl ⟨e,g,rfl,h⟩
 ·rename_i e
  split at h
  ·rename_i e2;exact .inr ⟨e,e2,h⟩
  ·cases h
theorem FR.finish (h:FR P H mo acc w0 own st a w)(g:Option Nat):ax1 P mo acc w0 (own.left g) w st.s/\(∀{v:V} {x:Value},VRel (Mut mo own) own.rho w v x->VRel (Mut mo (own.left g)) (own.left g).rho w v x):=by
 have hsub:∀k r,own.left g k=some r->∃k',own k'=some r/\(k'=k∨(k=.tok 0/\∃g',k'=.tok g'/\g=some g')):=by
  intro k r e
  rcases aV5 e with ⟨e1,g',e2,e3⟩ | ⟨e1,e2,e3⟩
  ·exact ⟨_,e3,.inr ⟨e1,g',rfl,e2⟩⟩
  ·exact ⟨k,e3,.inl rfl⟩
 have hs:∀k,k.ah6=true->own.left g k=own k:=by
  intro k q
  unfold Own.left
  rw [if_neg (by rintro rfl;cases q),if_pos q]
 have hrho:(own.left g).rho=own.rho:=by funext i;exact Own.ap7 (hs _ rfl) (hs _ rfl)
 have hmut:∀b x,Mut mo (own.left g) b x->Mut mo own b x:=by
  rintro b x (hm | ⟨k,r,e,hr⟩)
  ·exact .inl hm
  ·obtain ⟨k',e',_⟩:=hsub k r e
   exact .inr ⟨k',r,e',hr⟩
 have hlv:∀{k k':Key},k.live=true->(k'=k∨(k=.tok 0/\∃g',k'=.tok g'/\g=some g'))->k'.live=true:=by
  rintro k k' l (rfl | ⟨_,g',rfl,_⟩)
  ·exact l
  ·rfl
 have hbase:Base mo (own.left g) w:=by
  refine ⟨fun k r k' r' l l' e e' he=>?_,fun id r e=>h.sr.base.gone id r (by rw [←hs _ rfl];exact e),fun k r e=>?_,fun k r b x e hx=>?_,fun k r e hr=>?_⟩
  ·obtain ⟨k2,e2,z⟩:=hsub k r e
   obtain ⟨k2',e2',z'⟩:=hsub k' r' e'
   have:=h.sr.base.inj _ _ _ _ (hlv l z) (hlv l' z') e2 e2' he
   subst this
   rcases aV5 e with ⟨q1,g1,q2,q3⟩ | ⟨q1,q2,q3⟩<;>rcases aV5 e' with ⟨q1',g1',q2',q3'⟩ | ⟨q1',q2',q3'⟩
   ·rw [q1,q1']
   ·have:=h.sr.base.inj _ _ _ _ rfl l' q3 q3' he;rw [←this] at q2';cases q2'
   ·have:=h.sr.base.inj _ _ _ _ l rfl q3 q3' he;rw [this] at q2;cases q2
   ·exact h.sr.base.inj _ _ _ _ l l' q3 q3' he
  ·obtain ⟨k2,e2,_⟩:=hsub k r e;exact h.sr.base.lt _ _ e2
  ·obtain ⟨k2,e2,_⟩:=hsub k r e;exact h.sr.base.off _ _ _ _ e2 hx
  ·obtain ⟨k2,e2,z⟩:=hsub k r e
   refine h.sr.base.room _ _ e2 ?_
   rcases z with rfl | ⟨_,g',rfl,_⟩
   ·exact hr
   ·rfl
 refine ⟨⟨⟨hbase,fun id o ho=>(h.sr.objs id o ho).to (fun b x v _ hm q=>hm (hmut b x q)) hs,fun id hi=>by rw [hs _ rfl,hs _ rfl];exact h.sr.newObj id hi,fun id off r e=>by rw [hs _ rfl] at e;exact h.sr.spare id off r e⟩,fun k q q2=>by unfold Own.left;rw [if_neg q2,if_neg (by simp [q])],
  fun id b e=>by rw [hrho];exact h.rho0 id b e,h.keep,fun b x hb ⟨k,r,e,hr⟩=>by
   obtain ⟨k2,e2,_⟩:=hsub k r e
   exact h.old b x hb ⟨k2,r,e2,hr⟩,fun k r l e hlt=>by
   obtain ⟨k2,e2,z⟩:=hsub k r e
   exact h.oldB k2 r (hlv l z) e2 hlt⟩,fun hv=>hv.keep (fun b x v hc hm=>⟨hc,fun q=>hm (hmut b x q)⟩) (fun id b e=>by rw [hrho];exact e)⟩
theorem bv2 {M:Nat->Nat->Prop}{v:V}{x:Value}(h:XRel M own w v x)(hp:aG0 v=true):VRel M own.rho w v x:=by
 cases v<;>first | exact h | (simp [aG0] at hp)
theorem aG6 (f:FuncId)(fn:Func)(out:Out){own':Own}{st:St}{a':Act}{w':World}(hfr:FR P H mo own w own' st a' w')(hk:aA9 P H f fn .ret st=some out):
  a'.defers=[]/\∃v,(results fn a'.tmps).run P w'=.ok v w'/\aF4 P H f mo own w out (.returned v) w':=by
 unfold aA9 at hk
 simp only at hk
 obtain ⟨hd,hk⟩:=aa2 hk
 obtain ⟨vs,hvs,hk⟩:=Option.bind_eq_some_iff.1 hk
 obtain ⟨hc,hk⟩:=aa2 hk
 simp only [Option.some.injEq] at hk
 subst hk
 rw [Bool.and_eq_true] at hc
 have hd2:a'.defers=[]:=by
  have:=hfr.dsize
  have h0:st.d=[]:=by simpa using hd
  rw [h0] at this
  exact List.eq_nil_of_length_eq_zero (by simpa using this)
 obtain ⟨xs,r1,r2,r3⟩:=results_run hfr f fn vs hvs
 refine ⟨hd2,_,r1,?_⟩
 have hpl:∀(j:Nat) (v:V) (tag:Tag),vs[j]? =some (v,tag)->aG0 v=true:=fun j v tag e=>List.all_eq_true.1 hc.1 (v,tag) (List.mem_of_getElem? e)
 have hone:VRel (Mut mo own') own'.rho w' (one (vs.map (·.1))) (if h:xs.length=1 then xs[0]'(by omega) else .tuple xs.toArray):=by
  by_cases hl:xs.length=1
  ·rw [dif_pos hl]
   obtain ⟨p,rfl⟩:∃p,vs=[p]:=by
    have:vs.length=1:=by omega
    exact List.length_eq_one_iff.1 this
   obtain ⟨x,rfl⟩:=List.length_eq_one_iff.1 hl
   show VRel _ _ _ p.1 x
   exact bv2 (r3 0 p.1 p.2 x rfl rfl).1 (hpl 0 p.1 p.2 rfl)
  ·rw [dif_neg hl]
   have:one (vs.map (·.1))=.tup (vs.map (·.1)):=by
    unfold one
    split
    ·rename_i v e
     have:=congrArg List.length e
     simp at this
     omega
    ·rfl
   rw [this]
   refine .tup _ _ (by simp [r2]) fun j v x e1 e2=>?_
   rw [List.getElem?_map] at e1
   obtain ⟨p,e3,rfl⟩:=Option.map_eq_some_iff.1 e1
   exact bv2 (r3 j p.1 p.2 x e3 (by simpa using e2)).1 (hpl j p.1 p.2 e3)
 cases hh:ay5 H f (vs.map (·.1)) with
 | false=>
  obtain ⟨p1,p2⟩:=hfr.finish none
  exact ⟨own'.left none,_,rfl,p1,p2 hone,fun _=>by unfold Own.left;rw [if_pos rfl],fun e=>absurd (hh.symm.trans e) (by simp)⟩
 | true=>
  have hl:vs.length=1:=by
   unfold ay5 at hh
   simp at hh
   exact hh.2
  obtain ⟨p,rfl⟩:=List.length_eq_one_iff.1 hl
  obtain ⟨x,rfl⟩:=List.length_eq_one_iff.1 (r2.trans hl)
  obtain ⟨v,tag⟩:=p
  have hok:ownOk st.l (v,tag)=true:=by
   have h6:=hc.2
   unfold ay5 at hh
   simp only [List.length_map] at hh
   rw [hh] at h6
   simpa using h6
  have ht:=(r3 0 v tag x rfl rfl).2
  let tg:Option Nat:=match tag with | .tok g=>if g∈st.l then some g else none | _=>none
  obtain ⟨p1,p2⟩:=hfr.finish tg
  refine ⟨own'.left tg,_,rfl,p1,p2 hone,fun e=>absurd (hh.symm.trans e) (by simp),fun _=>?_⟩
  intro k es b o n c e1 e2
  have e1':v=.list true k es:=e1
  have e2':x=.slice (some ⟨b,o,none⟩) n c:=e2
  subst e1'
  cases tag with
  | no=>simp [ownOk] at hok
  | full=>exact .inl (ht _ _ _ e2')
  | tok g=>
   have hgl:g∈st.l:=by simpa [ownOk] using hok
   rcases ht.2 hgl k es b o n c rfl e2' with q | q
   ·exact .inl q
   ·right
    have:tg=some g:=by simp only [tg];rw [if_pos hgl]
    unfold Own.left
    rw [if_pos rfl,this]
    exact q
theorem bb3 (f:FuncId)(fn:Func)(out:Out){own':Own}{st:St}{a':Act}{w':World}(hfr:FR P H mo own w own' st a' w'){v:V}{x:Value}(hv:VRel (Mut mo own') own'.rho w' v x)(hk:aA9 P H f fn (.pan v) st=some out):
  a'.defers=[]/\aF4 P H f mo own w out (.panicked [{v:=x,recovered:=false}]) w':=by
 unfold aA9 at hk
 simp only at hk
 obtain ⟨hd,hk⟩:=aa2 hk
 simp only [Option.some.injEq] at hk
 subst hk
 rw [Bool.and_eq_true] at hd
 have hd2:a'.defers=[]:=by
  have:=hfr.dsize
  have h0:st.d=[]:=by simpa using hd.1
  rw [h0] at this
  exact List.eq_nil_of_length_eq_zero (by simpa using this)
 obtain ⟨p1,p2⟩:=hfr.finish none
 exact ⟨hd2,own'.left none,x,rfl,p1,p2 hv,by unfold Own.left;rw [if_pos rfl]⟩
def MR (M:Nat->Nat->Prop)(ρ:Nat->Option (Nat×Nat))(w:World)(m:Option V)(u:FrameMode):Prop:=
 (m=none/\u=.returning)∨∃v x,m=some v/\u=.panicking [{v:=x,recovered:=false}]/\VRel M ρ w v x
theorem MR.keep {M M':Nat->Nat->Prop}{ρ ρ':Nat->Option (Nat×Nat)}{w w':World}(hv:∀{v:V} {x:Value},VRel M ρ w v x->VRel M' ρ' w' v x){m:Option V}{u:FrameMode}(h:MR M ρ w m u):MR M' ρ' w' m u:=by
 rcases h with ⟨h1,h2⟩ | ⟨v,x,h1,h2,h3⟩
 ·exact .inl ⟨h1,h2⟩
 ·exact .inr ⟨v,x,h1,h2,hv h3⟩
def aT5 (r:Bool)(u:FrameMode):FrameMode:=match r,u with
 | true,.panicking [{v:=x,recovered:=false,goexit:=false}]=>.panicking [{v:=x,recovered:=true}]
 | _,u=>u
def RecOkD (P:Program)(H:ae2)(D:Option V->Rec):Prop:=
 ∀(m:Option V) (f:FuncId) (args:List V) (s:List O) (out:Out),D m f args s=some out->∀(mo:Nat->Nat->Prop) (own:Own) (w:World) (args':Array Value) (u:FrameMode),
  SR P mo own s w->(∀k,k.ah6=false->own k=none)->(∀b x,mo b x->b<w.heap.size)->Args (Mut mo own) own.rho w args args'->Glob H (Mut mo own) own.rho w->MR (Mut mo own) own.rho w m u ->
  CallsDIn Fence.wide 0 P f args' u w fun e u' w'=>u'=aT5 (recB P f).isSome u/\aF4 P H f mo own w out e w'
theorem bc9 {f:FuncId}{fn:Func}{c:Code}(hf:P.funcs[f]? =some fn)(hb:fn.body=some c):aD4 P f=c:=by unfold aD4;rw [hf];simp only [hb]
theorem bf4 (f:FuncId)(fn:Func)(id:Nat)(st:St):aA9 P H f fn (.exit id) st=none:=rfl
theorem dcall_ok (hH:HOk P H){rec:Rec}(hrec:aH8 P H rec)(n:Nat){f:FuncId}{args:List V}{s:List O}{out:Out}(h:bz6 P H rec n f args s=some out){mo:Nat->Nat->Prop}{own:Own}{w:World}{args':Array Value}(u:FrameMode)
  (h1:SR P mo own s w) (h2:∀k,k.ah6=false->own k=none) (h3:∀b x,mo b x->b<w.heap.size) (h4:Args (Mut mo own) own.rho w args args') (h5:Glob H (Mut mo own) own.rho w):
  CallsDIn Fence.wide 0 P f args' u w fun e u' w'=>u'=u/\aF4 P H f mo own w out e w':=by
 unfold bz6 at h
 cases hf:P.funcs[f]? with
 | none=>rw [hf] at h;cases h
 | some fn=>
  rw [hf] at h
  simp only at h
  cases hb:fn.body with
  | none=>rw [hb] at h;cases h
  | some c=>
   rw [hb] at h
   simp only at h
   have hst:FR P H mo own w own (start (H.sites f) args fn.ntmps s) _ w:=FR.start (P:=P) (H.sites f) fn h1 h2 h3 h4 h5
   refine callsDIn_of_wp hf hb trivial (wpIn_mono (aP8 hH hrec n none f out c (fun _ x hx=>by rw [bc9 hf hb];exact hx) _ own _ _ w hst h) fun e a' w' hq=>?_)
   cases e with
   | normal=>obtain ⟨st,own',hfr,hk⟩:=hq;exact aG6 f fn out hfr hk
   | ret=>obtain ⟨st,own',hfr,hk⟩:=hq;exact aG6 f fn out hfr hk
   | panic ch=>obtain ⟨st,own',v,x,rfl,hfr,hv,hk⟩:=hq;exact bb3 f fn out hfr hv hk
   | exit id=>obtain ⟨st,own',hfr,hk⟩:=hq;rw [bf4] at hk;cases hk
   | goto l=>exact hq.elim
   | outgrown=>exact hq.elim
theorem recB_some {f:FuncId}{fn:Func}{id:Nat}{o:Oper}{r:List Oper}{rest:Code}(h:recB P f=some (fn,id,o,r,rest)):
  P.funcs[f]? =some fn/\∃os:Array Oper,fn.body=some (.seq (.region id os false) rest)/\os.toList=o::r/\aY1 o=true:=by
 unfold recB at h
 split at h
 ·rename_i fn' hf
  split at h
  ·rename_i id' os rest' hb
   split at h
   ·rename_i o' r' ho
    cases hr:aY1 o' with
    | false=>rw [hr] at h;cases h
    | true=>
     rw [hr] at h
     simp only [cond_true,Option.some.injEq,Prod.mk.injEq] at h
     obtain ⟨rfl,rfl,rfl,rfl,rfl⟩:=h
     exact ⟨hf,os,hb,ho,hr⟩
   ·cases h
  ·cases h
 ·cases h
theorem rec_exec {o:Oper}(h:aY1 o=true)(f:Operand->Value)(w:World):(execOp f o).run P w=.ok .recover w/\o.guard=none:=by
 unfold aY1 at h
 split at h
 ·rename_i c hg hop
  split at h
  ·rename_i hc
   refine ⟨?_,hg⟩
   unfold execOp
   rw [hop]
   simp only
   have ha:c.args= #[]:=by
    have:c.args.toList=[]:=by simpa using h
    exact Array.toList_eq_nil_iff.1 this
   unfold resolve
   rw [hc,ha]
   rfl
  ·cases h
 ·cases h
theorem afterU_rec (cs:List Frame)(c:Frame)(u:FrameMode)(hc:c.mode=u){M:Nat->Nat->Prop}{ρ:Nat->Option (Nat×Nat)}{w:World}{m:Option V}(h:MR M ρ w m u):
  ∃x,(match recoverD (c::cs) with | some (v,cs')=>v=x/\cs'= {c with mode:=aT5 true u}::cs | none=>x=.nilIface/\aT5 true u=u)/\VRel M ρ w (recV m) x:=by
 rcases h with ⟨rfl,rfl⟩ | ⟨v,x,rfl,rfl,hv⟩
 ·refine ⟨.nilIface,?_,.nilif⟩
  have e:recoverD (c::cs)=none:=by simp [recoverD,hc]
  rw [e]
  exact ⟨rfl,rfl⟩
 ·refine ⟨x,?_,hv⟩
  have e:recoverD (c::cs)=some (x,{c with mode:=.panicking [{v:=x,recovered:=true}]}::cs):=by simp [recoverD,hc]
  rw [e]
  exact ⟨rfl,rfl⟩
theorem opsR_run (f:FuncId)(os:Array Oper)(Q:Exit->Act->List Frame->World->Prop)(cs:List Frame):∀(l:List Oper) (i0:Nat) (own:Own) (st:St) (a:Act) (w:World) (st':St),os.toList.drop i0=l->FR P H mo acc w0 own st a w->opsR P H f l st=some st' ->
  (∀(own':Own) (a':Act) (w':World),FR P H mo acc w0 own' st' a' w'->Q .normal a' cs w')->wpOpsSIn Fence.wide 0 P os Q (List.range' i0 l.length) a cs w
 | [],i0,own,st,a,w,st',_,h,hs,hQ=>by
  simp only [opsR,Option.some.injEq] at hs
  subst hs
  exact hQ own a w h
 | o::r,i0,own,st,a,w,st',hd,h,hs,hQ=>by
  simp only [opsR] at hs
  have q:=aa2 hs
  clear hs
  obtain ⟨hck,hs⟩:=q
  simp only [Bool.and_eq_true,Option.isNone_iff_eq_none] at hck
  obtain ⟨qv,hv,hs⟩:=Option.bind_eq_some_iff.1 hs
  obtain ⟨st1,h1,hs⟩:=Option.bind_eq_some_iff.1 hs
  have ho:os[i0]? =some o:=by
   have:(os.toList.drop i0)[0]? =some o:=by rw [hd];rfl
   rw [List.getElem?_drop] at this
   simpa using this
  have hd':os.toList.drop (i0+1)=r:=by
   have:(os.toList.drop i0).drop 1=r:=by rw [hd];rfl
   rw [List.drop_drop] at this
   exact this
  rw [List.length_cons,List.range'_succ]
  simp only [wpOpsSIn,ho]
  refine ⟨fun _ _=>trivial,?_⟩
  rw [if_pos (by simp [Region.wanted,hck.1])]
  obtain ⟨x,w',own',e1,e2,e3,e4,e5⟩:=opV_run h f (o.dst.getD 0) o qv.1 qv.2 hv
  unfold goD at h1
  obtain ⟨v',hn,rfl⟩:=Option.map_eq_some_iff.1 h1
  have hput:=e2.put o.dst v' qv.1.2 x (norm_x hn e3) (norm_t hn e4)
  have ih:=opsR_run f os Q cs r (i0+1) own' _ _ w' st' hd' hput hs hQ
  rcases e1 with e1 | ⟨e1,rfl⟩
  ·rw [e1];exact ih
  ·rw [e1];exact ih
theorem dcallM_ok (hH:HOk P H){rec:Rec}(hrec:aH8 P H rec)(n:Nat):RecOkD P H (aE5 P H rec n):=fun m f args s out h mo own w args' u h1 h2 h3 h4 h5 h6=>by
 unfold aE5 at h
 cases hr:recB P f with
 | none=>
  rw [hr] at h
  simp only at h
  refine CallsDIn.mono (dcall_ok hH hrec n h u h1 h2 h3 h4 h5) fun e u' w' hp=>⟨?_,hp.2⟩
  rw [hp.1]
  unfold aT5
  rfl
 | some q=>
  obtain ⟨fn,id,o,r,rest⟩:=q
  rw [hr] at h
  simp only at h
  obtain ⟨hf,os,hb,hos,hrec0⟩:=recB_some hr
  obtain ⟨st1,g1,hA⟩:=Option.bind_eq_some_iff.1 h
  obtain ⟨st2,g2,hB⟩:=Option.bind_eq_some_iff.1 hA
  obtain ⟨st3,g3,hC⟩:=Option.bind_eq_some_iff.1 hB
  clear h hA hB
  have hst:FR P H mo own w own (start (H.sites f) args fn.ntmps s) _ w:=FR.start (P:=P) (H.sites f) fn h1 h2 h3 h4 h5
  refine callsDIn_of_wpSIn hf hb trivial fun c₀ cs hc=>wpSIn_seq (wpSIn_region ?_)
  obtain ⟨x,hx1,hx2⟩:=afterU_rec cs c₀ u hc h6
  have ho0:os[0]? =some o:=by
   have:os.toList[0]? =some o:=by rw [hos];rfl
   simpa using this
  have hsz:os.size=r.length+1:=by rw [←Array.length_toList,hos];rfl
  rw [hsz,List.range_eq_range',List.range'_succ]
  simp only [wpOpsSIn,ho0]
  refine ⟨fun _ _=>trivial,?_⟩
  obtain ⟨hex,hg⟩:=rec_exec hrec0 ({tmps:=args'++Array.replicate (fn.ntmps-args'.size) undef,defers:=[]}:Act).eval w
  rw [if_pos (by simp [Region.wanted,hg]),hex]
  simp only
  unfold goD at g1
  obtain ⟨v',hn,rfl⟩:=Option.map_eq_some_iff.1 g1
  have hput:FR P H mo own w own _ (({tmps:=args'++Array.replicate (fn.ntmps-args'.size) undef,defers:=[]}:Act).put o.dst x) w:=hst.put o.dst v' .no x (norm_x hn (XRel.of hx2)) trivial
  have fin:∀(csx:List Frame),csx= {c₀ with mode:=aT5 true u}::cs->wpOpsSIn Fence.wide 0 P os (Exit.thenS (rest.wpSIn Fence.wide 0 P (bodyPostS P fn c₀ cs fun e u' w'=>u'=aT5 (some (fn,id,o,r,rest)).isSome u/\aF4 P H f mo own w out e w')) (bodyPostS P fn c₀ cs fun e u' w'=>u'=aT5 (some (fn,id,o,r,rest)).isSome u/\aF4 P H f mo own w out e w')) (List.range' 1 r.length) (({tmps:=args'++Array.replicate (fn.ntmps-args'.size) undef,defers:=[]}:Act).put o.dst x) csx w:=by
   intro csx hcs
   refine opsR_run f os _ csx r 1 own _ _ w st2 (by rw [hos];rfl) hput g2 fun own' a' w' hfr=>?_
   obtain ⟨own2,hfr2⟩:=hfr.aY7 (H.br f id) st3 g3
   refine wpSIn_of_wpIn rfl (wpIn_mono (aP8 hH hrec n none f out rest (fun _ x hx=>by rw [bc9 hf hb];exact List.mem_append_right _ hx) _ own2 _ _ w' hfr2 hC) fun e a' w' hq=>?_)
   subst hcs
   cases e with
   | normal=>
    obtain ⟨st,own',hfr,hk⟩:=hq
    obtain ⟨z1,v,z2,z3⟩:=aG6 f fn out hfr hk
    exact ⟨z1,_,rfl,v,z2,rfl,z3⟩
   | ret=>
    obtain ⟨st,own',hfr,hk⟩:=hq
    obtain ⟨z1,v,z2,z3⟩:=aG6 f fn out hfr hk
    exact ⟨z1,_,rfl,v,z2,rfl,z3⟩
   | panic ch=>
    obtain ⟨st,own',v,x,rfl,hfr,hv,hk⟩:=hq
    obtain ⟨z1,z2⟩:=bb3 f fn out hfr hv hk
    exact ⟨z1,_,rfl,rfl,z2⟩
   | exit id=>obtain ⟨st,own',hfr,hk⟩:=hq;rw [bf4] at hk;cases hk
   | goto l=>exact hq.elim
   | outgrown=>exact hq.elim
  split at hx1
  ·rename_i v cs' hrd
   rw [hrd]
   obtain ⟨rfl,hcs⟩:=hx1
   exact fin cs' hcs
  ·rename_i hrd
   rw [hrd]
   obtain ⟨rfl,hu⟩:=hx1
   refine fin (c₀::cs) ?_
   rw [hu,←hc]
theorem FR.shut (h:FR P H mo acc w0 own st a w){r:Nat}{d:FuncId×List V}{ds:List (FuncId×List V)}{d':Deferred}{ds':List Deferred}(hd:st.d=d::ds)(ha:a.defers=d'::ds')(hr0:w0.heap.size<=r)(hr:w.heap[r]? =some (.deferred (some [])))
  (ht:d'.target=.collected r):FR P H mo acc w0 own {st with d:=ds} {a with defers:=ds'} (w.putObj r (.deferred none))/\(∀{v:V} {x:Value},VRel (Mut mo own) own.rho w v x->VRel (Mut mo own) own.rho (w.putObj r (.deferred none)) v x):=by
 have hnc:∀cs T fr,Obj.deferred (some [])≠.cells cs T fr:=by intro cs T fr q;cases q
 have hv:∀{v:V} {x:Value},VRel (Mut mo own) own.rho w v x->VRel (Mut mo own) own.rho (w.putObj r (.deferred none)) v x:=fun q=>q.keep (fun b x v hc hm=>⟨aE7 hr hnc hc,hm⟩) (fun _ _ e=>e)
 have hX:∀{v:V} {x:Value},XRel (Mut mo own) own w v x->XRel (Mut mo own) own (w.putObj r (.deferred none)) v x:=by
  intro v x q
  cases v with
  | undef=>trivial
  | loc i o=>exact q
  | _=>exact XRel.of (hv q)
 have hne:∀{b:Nat} {o:Obj},w.heap[b]? =some o->o≠.deferred (some [])->(w.putObj r (.deferred none)).heap[b]? =some o:=by
  intro b o e q
  rw [World.putObj_heap_other (fun z=>by subst z;rw [hr] at e;injection e with e;exact q e.symm)]
  exact e
 refine ⟨{h with
  sr:=⟨⟨h.sr.base.inj,h.sr.base.gone,fun k q e=>by rw [putObj_size];exact h.sr.base.lt k q e,h.sr.base.off,fun k q e hk=>by
    obtain ⟨h1,cs,T,h2,h3⟩:=h.sr.base.room k q e hk
    exact ⟨h1,cs,T,hne h2 (by simp),h3⟩⟩,fun id o ho=>?_,h.sr.newObj,h.sr.spare⟩
  keep:=⟨h.keep.os,h.keep.tape,h.keep.output,by rw [putObj_size];exact h.keep.size,fun b hb hac=>by
    rw [World.putObj_heap_other (by omega)];exact h.keep.block b hb hac,fun b x v hc hac=>aE7 hr hnc (h.keep.cell b x v hc hac)⟩
  slot:=fun i v tag x e1 e2=>⟨hX (h.slot i v tag x e1 e2).1,(h.slot i v tag x e1 e2).2⟩
  arena:=fun i box hb hbn=>by
   obtain ⟨b,cs,T,z1,z2,z3,z4⟩:=h.arena i box hb hbn
   exact ⟨b,cs,T,z1,hne z2 (by simp),z3,fun j v tag x e1 e2=>⟨(z4 j v tag x e1 e2).1,hv (z4 j v tag x e1 e2).2.1,(z4 j v tag x e1 e2).2.2⟩⟩
  dsize:=by have:=h.dsize;rw [ha,hd] at this;simpa using this
  dfr:=fun i x x' q1 q2=>by
   rcases h.dfr (i+1) x x' (by rw [hd];exact q1) (by rw [ha];exact q2) with ⟨z1,r',z2,z3,z4,z5⟩ | ⟨cap,z1,z2,z3⟩
   ·refine .inl ⟨z1,r',z2,z3,?_,z5⟩
    rw [World.putObj_heap_other (fun q=>?_)]
    ·exact z4
    ·subst q
     have:=h.marks 0 (i+1) d' x' r' (by rw [ha];rfl) (by rw [ha];exact q2) ht (by rw [z2])
     omega
   ·exact .inr ⟨cap,z1,z2,fun j v x e1 e2=>hv (z3 j v x e1 e2)⟩
  marks:=fun i j x x' q e1 e2 t1 t2=>by
   have:=h.marks (i+1) (j+1) x x' q (by rw [ha];exact e1) (by rw [ha];exact e2) t1 t2
   omega
  glob:=fun g cs e=>by
   obtain ⟨f,z1,z2,z3⟩:=h.glob g cs e
   exact ⟨f,z1,fun j x hx=>⟨aE7 hr hnc (z2 j x hx).1,(z2 j x hx).2⟩,fun j x hx=>hv (z3 j x hx)⟩},hv⟩
 have:=h.sr.objs id o ho
 cases o with
 | gone=>trivial
 | box box=>
  obtain ⟨b,cs,T,z1,z2,z3,z4⟩:=this
  exact ⟨b,cs,T,z1,hne z2 (by simp),z3,fun j v fl x e1 e2=>⟨(z4 j v fl x e1 e2).1,hv (z4 j v fl x e1 e2).2.1,(z4 j v fl x e1 e2).2.2⟩⟩
 | map es clock=>
  obtain ⟨b,es',z1,z2,z3,z4⟩:=this
  exact ⟨b,es',z1,hne z2 (by simp),z3,fun j k v e e1 e2=>⟨hv (z4 j k v e e1 e2).1,hv (z4 j k v e e1 e2).2.1,(z4 j k v e e1 e2).2.2⟩⟩
 | loop f ps t q pend=>
  obtain ⟨b,l,z1,z2,z3,z4,z5,z6,z7⟩:=this
  exact ⟨b,l,z1,hne z2 (by simp),z3,z4,z5,z6,z7.1,fun j v x e1 e2=>(z7.2 j v x e1 e2).imp (fun e=>e) hv⟩
theorem isMark_eq {d:FuncId×List V}(h:aR8 d=true):d.2=[.undef]:=by
 unfold aR8 at h
 split at h
 ·assumption
 ·cases h
theorem isMark_no {d:FuncId×List V}(h:aR8 d=false):d.2≠[.undef]:=by
 intro e
 unfold aR8 at h
 rw [e] at h
 cases h
theorem bc2 (hH:HOk P H){D:Option V->Rec}(hD:RecOkD P H D)(fn:Func)(R:Ending->World->Prop)(K:Option V->St->Option Out)(out:Out)(ts:Array Value)
  (hK:∀(own':Own) (st':St) (a':Act) (w':World) (m:Option V) (u:FrameMode),FR P H mo acc w0 own' st' a' w'->a'.tmps=ts->MR (Mut mo own') own'.rho w' m u->K m st'=some out->LeavesInM Fence.wide 0 P fn ts R [] u w'):
  ∀(ds:List (FuncId×List V)) (m:Option V) (u:FrameMode) (own:Own) (st:St) (a:Act) (w:World),st.d=ds->a.tmps=ts->FR P H mo acc w0 own st a w->MR (Mut mo own) own.rho w m u->drain P H D ds m st K=some out->LeavesInM Fence.wide 0 P fn ts R a.defers u w
 | [],m,u,own,st,a,w,hd,ht,h,hv,hs=>by
  have ha:a.defers=[]:=List.eq_nil_of_length_eq_zero (by rw [h.dsize,hd];rfl)
  rw [ha]
  rw [drain] at hs
  refine hK own _ a w m u ?_ ht hv hs
  have:({st with d:=[]}:St)=st:=by cases st;simp only at hd;subst hd;rfl
  rw [this];exact h
 | d::ds,m,u,own,st,a,w,hd,ht,h,hv,hs=>by
  have hu:u≠.run:=by rcases hv with ⟨_,rfl⟩ | ⟨_,_,_,rfl,_⟩<;>simp
  rw [drain] at hs
  cases ha:a.defers with
  | nil=>have:=h.dsize;rw [ha,hd] at this;simp at this
  | cons d' ds'=>
   have hdr:=h.dfr 0 d d' (by rw [hd];rfl) (by rw [ha];rfl)
   cases hm:aR8 d with
   | true=>
    rw [hm] at hs
    simp only [cond_true] at hs
    rcases hdr with ⟨_,r,z1,z2,z3,_⟩ | ⟨cap,_,e2,e3⟩
    ·obtain ⟨f1,f2⟩:=h.shut hd ha z2 z3 (by rw [z1])
     refine ⟨hu,.inl ⟨r,_,by rw [z1],run_takeDeferred z3,?_⟩⟩
     exact bc2 hH hD fn R K out ts hK ds m u own {st with d:=ds} {a with defers:=ds'} _ rfl ht f1 (hv.keep f2) hs
    ·have q:=isMark_eq hm
     rw [q] at e2 e3
     obtain ⟨x,hx⟩:∃x,(d'.args++cap)[0]? =some x:=⟨_,Array.getElem?_eq_getElem (by rw [e2];exact Nat.one_pos)⟩
     have:=e3 0 .undef x rfl hx
     cases this
   | false=>
   rw [hm] at hs
   simp only [cond_false] at hs
   have q:=aa2 hs
   clear hs
   obtain ⟨hok,hs⟩:=q
   rw [Bool.and_eq_true] at hok
   obtain ⟨o,ho,hs⟩:=Option.bind_eq_some_iff.1 hs
   obtain ⟨cap,e1,e2,e3⟩:=hdr.resolve_left (fun q=>isMark_no hm q.1)
   obtain ⟨c1,c2,c3,c4⟩:=h.callee
   have hin:∀{v:V} {x:Value},VRel (Mut mo own) own.rho w v x->VRel (Mut (moIn mo own) own.sh) own.sh.rho w v x:=fun q=>q.keep (fun b x v hc hm=>⟨hc,by rw [aG3];exact hm⟩) (fun id b e=>e)
   have hargs:Args (Mut (moIn mo own) own.sh) own.sh.rho w d.2 (d'.args++cap):=⟨e2,fun j v x q1 q2=>hin (e3 j v x q1 q2)⟩
   have h':FR P H mo acc w0 own {st with d:=ds} {a with defers:=ds'} w:={h with
    dsize:=by have:=h.dsize;rw [ha,hd] at this;simpa using this
    dfr:=fun i x x' q1 q2=>h.dfr (i+1) x x' (by rw [hd];exact q1) (by rw [ha];exact q2)
    marks:=fun i j x x' q e1 e2 t1 t2=>by
     have:=h.marks (i+1) (j+1) x x' q (by rw [ha];exact e1) (by rw [ha];exact e2) t1 t2
     omega}
   refine ⟨hu,.inr ⟨(fun q=>by cases q),_,cap,d.1,d'.args++cap,e1,?_,(fun _ _=>trivial),CallsDIn.mono (hD m d.1 d.2 st.s o ho (moIn mo own) own.sh w _ u c1 c2 c3 hargs c4 (hv.keep hin)) fun e u' w' hp=>?_⟩⟩
   ·rw [e1];exact hH.ok d.1 hok.1 _ w
   ·obtain ⟨rfl,hp⟩:=hp
    cases o with
    | pan v s'=>simp at hs
    | ret vs s'=>
     obtain ⟨own',v',rfl,p,hvv,q0,q1⟩:=hp
     have hh:ay5 H d.1 vs=false:=by
      unfold ay5
      have:=hok.2
      simp only [Bool.not_eq_true'] at this
      rw [this];rfl
     obtain ⟨f1,f2⟩:=h'.after p false (fun _=>q0 hh)
     simp only at hs ⊢
     have hv2:MR (Mut (moIn mo own) own') own'.rho w' m u:=hv.keep fun hv=>hv.keep (fun b x v hc hm=>by
      refine ⟨p.keep.cell b x v hc fun hx=>hm ?_,fun hx=>hm ?_⟩
      ·rw [←aG3];exact .inr hx
      ·rcases hx with hx | hx
       ·rw [←aG3];exact .inl hx
       ·rw [←aG3];exact .inr (p.old b x (aM0 hc) hx)) (fun id b e=>p.rho id b e)
     have hmu:MR (Mut (moIn mo own) own') own'.rho w' (bif (recB P d.1).isSome then none else m) (settle (aT5 (recB P d.1).isSome u)):=by
      cases (recB P d.1).isSome with
      | false=>
       rcases hv2 with ⟨rfl,rfl⟩ | ⟨v,x,rfl,rfl,q⟩
       ·exact .inl ⟨rfl,rfl⟩
       ·exact .inr ⟨v,x,rfl,rfl,q⟩
      | true=>
       rcases hv2 with ⟨rfl,rfl⟩ | ⟨v,x,rfl,rfl,q⟩
       ·exact .inl ⟨rfl,rfl⟩
       ·exact .inl ⟨rfl,rfl⟩
     exact bc2 hH hD fn R K out ts hK ds _ _ _ _ {a with defers:=ds'} w' rfl ht f1 (hmu.keep f2) hs
theorem bq7 {M:Nat->Nat->Prop}:∀(ps:List Nat) (args:List V) (args':List Value) (t:List V) (tm:Array Value),args.length=ps.length->args'.length=ps.length->(∀(j:Nat) (v:V) (x:Value),args[j]? =some v->args'[j]? =some x->VRel M own.rho w v x)->LRel M own w t tm ->
  LRel M own w (bk9 ps args t) ((ps.zip args').foldl (fun tm p=>tm.setIfInBounds p.1 p.2) tm)
 | [],args,args',t,tm,_,_,_,h=>by simpa [bk9] using h
 | p::ps,[],args',t,tm,h1,_,_,_=>by simp at h1
 | p::ps,v::args,[],t,tm,_,h2,_,_=>by simp at h2
 | p::ps,v::args,x::args',t,tm,h1,h2,hr,h=>by
  have:=bq7 ps args args' (t.set p v) (tm.setIfInBounds p x) (by simpa using h1) (by simpa using h2) (fun j v x e1 e2=>hr (j+1) v x (by simpa using e1) (by simpa using e2)) ⟨by simp [h.1],fun j v' x' e1 e2=>by
   rw [List.getElem?_set] at e1
   rw [Array.getElem?_setIfInBounds] at e2
   by_cases e:p=j
   ·subst e
    rw [if_pos rfl] at e1 e2
    split at e1<;>simp at e1
    split at e2<;>simp at e2
    subst e1;subst e2
    exact .inr (hr 0 _ _ rfl rfl)
   ·rw [if_neg e] at e1 e2
    exact h.2 j v' x' e1 e2⟩
  simpa [bk9] using this
theorem FR.aF7 {s:List O}{t:List V}{tm:Array Value}(m:Nat)(h1:SR P mo own s w)(h2:∀k,k.ah6=false->own k=none)(h3:∀b x,mo b x->b<w.heap.size)(h4:LRel (Mut mo own) own w t tm)(h5:Glob H (Mut mo own) own.rho w):
  FR P H mo own w own (aF7 m t s) {tmps:=tm,defers:=[]} w where
 sr:=h1
 keep:=Keep.refl _ _
 old:=fun _ _ _ e=>e
 oldB:=fun k r l e _=>⟨k,r,l,e,rfl⟩
 mlt:=h3
 rho0:=fun _ _ e=>e
 size:=by simp [E.aF7,h4.1]
 slot i v tag x hv hx:=by
  simp only [E.aF7,List.getElem?_map] at hv
  obtain ⟨v',e,e2⟩:=Option.map_eq_some_iff.1 hv
  injection e2 with q1 q2
  subst q1;subst q2
  refine ⟨?_,trivial⟩
  rcases h4.2 i v' x e hx with q | q
  ·rw [q];trivial
  ·exact XRel.of q
 arena i box hb:=by
  simp only [E.aF7] at hb
  rw [List.getElem?_replicate] at hb
  split at hb<;>simp at hb
  subst hb
  intro q;exact absurd rfl q
 newTok:=fun g _=>h2 _ rfl
 tokLt:=fun g hg=>by simp [E.aF7] at hg
 newLoc:=fun i _=>h2 _ rfl
 dsize:=rfl
 dfr:=fun i d d' e=>by simp [E.aF7] at e
 marks:=fun i j d d' r e=>by simp at e
 glob:=h5
theorem bm1 {b C id:Nat}{jump:Option (Option Nat)}{own1:Own}{st1:St}{a1:Act}{w1:World}(hfr:FR P H mo own w own1 st1 a1 w1)(hrho:own.rho id=some (b,C)){out:Out}(hk:endY id jump st1=some out):
  ∃v w',(Instr.endRound b (aM9 jump)).run P w1=.ok v w'/\OutPostY P mo own w out (.returned v) w':=by
 unfold endY at hk
 obtain ⟨hd,hk⟩:=aa2 hk
 unfold endK at hk
 split at hk
 ·rename_i f ps t q p hl
  obtain ⟨hq,hk⟩:=aa2 hk
  obtain ⟨b1,r1,z1,z2,z3,z4,z5,z6,z7,z8⟩:=hfr.bu8 hl
  have hb:b1=b:=by
   have e1:=hfr.rho0 _ _ hrho
   rw [Own.aj0 z1] at e1
   injection e1 with e1
   injection e1
  subst hb
  have hrun:=run_endRound (P:=P) (aM9 jump) z2
  have hj:(aM9 jump).isNone=jump.isNone:=by cases jump with | none=>rfl | some j=>cases j<;>rfl
  obtain ⟨f4,_⟩:=z8 (if jump.isNone then 0 else 2) jump {r1 with state:=if (aM9 jump).isNone then .ready else .done,pending:=aM9 jump} (by rw [hj];cases jump<;>rfl)
  refine ⟨_,_,hrun,?_⟩
  injection hk with hk
  subst hk
  obtain ⟨p1,p2⟩:=f4.finish none
  exact ⟨_,_,rfl,p1,by rw [hj];exact .bool _,by unfold Own.left;rw [if_pos rfl]⟩
 ·cases hk
theorem callY_ok (hH:HOk P H){rec:Rec}(hrec:aH8 P H rec)(n id:Nat):RecOkY P H id (callY P H rec n id):=fun args s out h mo own w args' b C h1 h2 h3 h4 h5 hrho=>by
 unfold callY at h
 split at h
 ·rename_i f ps t q0 p0 hl0
  obtain ⟨cc,hcc,h⟩:=Option.bind_eq_some_iff.1 h
  have hck:=aa2 h
  clear h
  obtain ⟨hlen,h⟩:=hck
  have hlen:args.length=ps.length:=(Nat.eq_of_beq_eq_true hlen).symm
  obtain ⟨b',r,z1,z2,z3,z4,z5,z6,z7⟩:=h1.objs id _ hl0
  have hb:b'=b:=by
   rw [Own.aj0 z1] at hrho
   injection hrho with e
   injection e
  subst hb
  have hcc2:cc=(r.assign,r.body):=by rw [hcc] at z6;exact Option.some.inj z6
  subst hcc2
  refine ⟨r.fn,_,r.assign,r.body,run_yield z2 (by rw [z5,h4.1];simpa using hlen),roundIn_of_wpIn (F:=Fence.wide) trivial ?_⟩
  have hfold:(r.params.zip args').foldl (fun tmps p=>tmps.setIfInBounds p.1 p.2) r.tmps=(ps.zip args'.toList).foldl (fun tm p=>tm.setIfInBounds p.1 p.2) r.tmps:=by
   rw [z5,←Array.foldl_toList,Array.toList_zip]
  have hst:FR P H mo own w own (aF7 (H.sites f) (bk9 ps args t) s) {tmps:=(r.params.zip args').foldl (fun tmps p=>tmps.setIfInBounds p.1 p.2) r.tmps,defers:=[]} w:=by
   rw [hfold]
   exact FR.aF7 (H.sites f) h1 h2 h3 (bq7 ps args args'.toList t r.tmps hlen (by simpa using h4.1.trans hlen) (fun j v x e1 e2=>h4.2 j v x e1 (by simpa using e2)) z7) h5
  refine wpIn_mono (aP8 hH hrec n (some b') f out r.assign (fun e=>by cases e) _ own _ _ w hst h) fun e a1 w1 hq=>?_
  cases e with
  | normal=>
   obtain ⟨st1,own1,hfr,hk⟩:=hq
   unfold beginY begK at hk
   simp only at hk
   split at hk
   ·rename_i f' ps' t' q1 p1 hl1
    have hck:=aa2 hk
    clear hk
    obtain ⟨hq1,hk⟩:=hck
    obtain rfl:q1=0:=Nat.eq_of_beq_eq_true hq1
    obtain ⟨b1,r1,y1,y2,y3,y4,y5,y6,y7,y8⟩:=hfr.bu8 hl1
    have hb:b1=b':=by
     have e1:=hfr.rho0 _ _ hrho
     rw [Own.aj0 y1] at e1
     injection e1 with e1
     injection e1
    subst hb
    obtain ⟨f2,_⟩:=y8 1 p1 {r1 with state:=.busy} (by rw [←y4];rfl)
    refine ⟨_,run_beginRound y2 y3,?_⟩
    refine wpIn_mono (aP8 hH hrec n (some b1) f out r.body (fun e=>by cases e) _ _ _ _ _ f2 hk) fun e a2 w2 hq=>?_
    cases e with
    | normal=>obtain ⟨st2,own2,g1,g2⟩:=hq;exact bm1 g1 hrho g2
    | ret=>obtain ⟨st2,own2,g1,g2⟩:=hq;exact bm1 g1 hrho g2
    | exit i=>obtain ⟨st2,own2,g1,g2⟩:=hq;exact bm1 g1 hrho g2
    | panic ch=>obtain ⟨st2,own2,v,x,_,_,_,g⟩:=hq;cases g
    | goto l=>exact hq.elim
    | outgrown=>exact hq.elim
   ·cases hk
  | ret=>obtain ⟨st1,own1,hfr,hk⟩:=hq;cases hk
  | exit i=>obtain ⟨st1,own1,hfr,hk⟩:=hq;cases hk
  | panic ch=>obtain ⟨st1,own1,v,x,_,_,_,hk⟩:=hq;cases hk
  | goto l=>exact hq.elim
  | outgrown=>exact hq.elim
 ·cases h
theorem bA1 (hH:HOk P H)(G:FuncId->Option (List V->List O->Option Out))(hG:∀f g,G f=some g->aT6 P H f g)(hGs:∀f g,G f=some g->f<P.funcs.size):∀n,aH8 P H (call P H G n)
 | 0=>⟨fun f _ args s out h=>by simp [call] at h,fun id args s out h=>by simp [call] at h⟩
 | n+1=>by
  have hrec:=bA1 hH G hG hGs n
  refine ⟨fun f hlt args s out h mo own w args' h1 h2 h3 h4 h5=>?_,fun id args s out h=>?_⟩
  ·rw [call] at h
   cases hg:G f with
   | some g=>rw [hg] at h;exact hG f g hg args s out h mo own w args' h1 h2 h3 h4 h5
   | none=>
    rw [hg] at h
    simp only at h
    cases hf:P.funcs[f]? with
    | none=>rw [Array.getElem?_eq_getElem hlt] at hf;cases hf
    | some fn=>
     rw [hf] at h
     simp only at h
     cases hb:fn.body with
     | none=>rw [hb] at h;cases h
     | some c=>
      rw [hb] at h
      simp only at h
      have hst:FR P H mo own w own (start (H.sites f) args fn.ntmps s) _ w:=FR.start (P:=P) (H.sites f) fn h1 h2 h3 h4 h5
      refine callsIn_wide.1 (callsIn_of_wp_marks (n:=0) hf hb trivial (wpIn_mono (aP8 hH hrec n none f out c (fun _ x hx=>by rw [bc9 hf hb];exact hx) _ own _ _ w hst h) fun e a' w' hq=>?_))
      have ret:∀(st:St) (own':Own) (m:Option V) (u:FrameMode),FR P H mo own w own' st a' w'->MR (Mut mo own') own'.rho w' m u->drain P H (aE5 P H (call P H G n) n) st.d m st (fun m st=>aA9 P H f fn (exOf m) st)=some out->LeavesInM Fence.wide 0 P fn a'.tmps (aF4 P H f mo own w out) a'.defers u w':=fun st own' m u hfr hm hk=>
       bc2 hH (dcallM_ok hH hrec n) fn _ _ out a'.tmps (fun own2 st2 a2 w2 m2 u2 f2 e2 hm2 k2=>by
        rcases hm2 with ⟨rfl,rfl⟩ | ⟨v,x,rfl,rfl,hv⟩
        ·obtain ⟨_,v,r1,r2⟩:=aG6 f fn out f2 k2
         rw [e2] at r1
         exact ⟨v,r1,r2⟩
        ·exact (bb3 f fn out f2 hv k2).2) st.d m u own' st a' w' rfl rfl hfr hm hk
      cases e with
      | normal=>obtain ⟨st,own',hfr,hk⟩:=hq;exact ret st own' none .returning hfr (.inl ⟨rfl,rfl⟩) hk
      | ret=>obtain ⟨st,own',hfr,hk⟩:=hq;exact ret st own' none .returning hfr (.inl ⟨rfl,rfl⟩) hk
      | panic ch=>
       obtain ⟨st,own',v,x,rfl,hfr,hv,hk⟩:=hq
       exact ret st own' (some v) _ hfr (.inr ⟨v,x,rfl,rfl,hv⟩) hk
      | exit id=>obtain ⟨st,own',hfr,hk⟩:=hq;simp [leave] at hk
      | goto l=>exact hq.elim
      | outgrown=>exact hq.elim
  ·rw [call] at h
   cases hg:G (P.funcs.size+id) with
   | some g=>exact absurd (hGs _ g hg) (Nat.not_lt.2 (Nat.le_add_right _ _))
   | none=>
    rw [hg] at h
    simp only at h
    rw [Array.getElem?_eq_none (Nat.le_add_right P.funcs.size id)] at h
    simp only at h
    rw [show P.funcs.size+id-P.funcs.size=id by omega] at h
    exact callY_ok hH hrec n id args s out h
end
end Go.Proofs.YtnpjififnhjbbaaDoor.E
