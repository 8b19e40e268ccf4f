/- It is proved what a run that begins without objects says of a call at an untouched world, and of given functions. No condition beyond the lemmas' own. -/
import Derived.Test.YtnpjififnhjbbaaDoorEXM
import Derived.Below
namespace Go.Proofs.YtnpjififnhjbbaaDoor.E
open Go Go.RowKit
abbrev own0 :Own:=fun _=>none
abbrev M0 :Nat->Nat->Prop:=fun _ _=>False
theorem sr0 (P:Program)(w:World):SR P M0 own0 [] w where
 base:=⟨fun k r k' r' _ _ h=>(by cases h),fun id r h=>(by cases h),fun k r h=>(by cases h),fun k r b x h=>(by cases h),fun k r h=>(by cases h)⟩
 objs:=fun id o h=>by cases h
 newObj:=fun _ _=>⟨rfl,rfl⟩
 spare:=fun id off r h=>by cases h
theorem calls0 {P:Program}{H:ae2}{rec:Rec}(hr:aH8 P H rec)(hg:∀g,H.glob g=none){f:FuncId}(hf:f<P.funcs.size){args:List V}{vs:List V}{s:List O}(h:rec f args []=some (.ret vs s)){args':Array Value}{w:World}
  (ha:Args (Mut M0 own0) own0.rho w args args'):Calls P f args' w fun e w'=>∃own' v',e=.returned v'/\ax1 P M0 own0 w own' w' s/\VRel (Mut M0 own') own'.rho w' (one vs) v':=by
 have:=hr.fn f hf args [] (.ret vs s) h M0 own0 w args' (sr0 P w) (fun _ _=>rfl) (fun b x h=>h.elim) ha (fun g cs hc=>by rw [hg] at hc;cases hc)
 refine this.mono ?_
 rintro e w' ⟨own',v',h1,h2,h3,_⟩
 exact ⟨own',v',h1,h2,h3⟩
theorem no_has0 (b x:Nat):¬own0.has b x:=by rintro ⟨k,r,h,_⟩;cases h
theorem below0 {P:Program}{own':Own}{w w':World}{s:List O}(h:ax1 P M0 own0 w own' w' s):Below w.heap.size w w':=
 ⟨h.keep.os,h.keep.tape,h.keep.output,h.keep.size,fun k hk=>h.keep.block k hk fun x=>no_has0 k x⟩
section
variable {P:Program} {H:ae2} {mo:Nat->Nat->Prop} {own:Own} {s:List O} {w w':World}
theorem br3 (h:Below w.heap.size w w'){b x:Nat}{v:Value}(hc:w.cell? ⟨b,x,none⟩=some v):w'.cell? ⟨b,x,none⟩=some v:=by
 have hb:=aM0 hc
 have e:=h.block b hb
 rw [←hc]
 unfold World.cell?
 simp only [e]
theorem aM1 (h:Below w.heap.size w w'){M:Nat->Nat->Prop}{ρ:Nat->Option (Nat×Nat)}{v:V}{x:Value}(hv:VRel M ρ w v x):VRel M ρ w' v x:=
 hv.keep (fun b x v hc hm=>⟨br3 h hc,hm⟩) (fun _ _ e=>e)
theorem sr_below (h:SR P mo own s w)(hb:Below w.heap.size w w'):SR P mo own s w' where
 base:=⟨h.base.inj,h.base.gone,fun k r e=>Nat.lt_of_lt_of_le (h.base.lt k r e) hb.size,h.base.off,fun k r e hr=>by
  obtain ⟨h1,cs,T,h2,h3⟩:=h.base.room k r e hr
  exact ⟨h1,cs,T,by rw [hb.block _ (h.base.lt k r e)];exact h2,h3⟩⟩
 objs:=fun id o ho=>by
  have:=h.objs id o ho
  cases o with
  | box box=>
   obtain ⟨b,cs,T,h1,h2,h3,h4⟩:=this
   refine ⟨b,cs,T,h1,by rw [hb.block _ (h.base.lt _ _ h1)];exact h2,h3,fun j v fl x e1 e2=>⟨(h4 j v fl x e1 e2).1,aM1 hb (h4 j v fl x e1 e2).2.1,(h4 j v fl x e1 e2).2.2⟩⟩
  | map es c=>
   obtain ⟨b,es',h1,h2,h3,h4⟩:=this
   exact ⟨b,es',h1,by rw [hb.block _ (h.base.lt _ _ h1)];exact h2,h3,fun j k v e e1 e2=>⟨aM1 hb (h4 j k v e e1 e2).1,aM1 hb (h4 j k v e e1 e2).2.1,(h4 j k v e e1 e2).2.2⟩⟩
  | gone=>trivial
  | loop f ps t q pend=>
   obtain ⟨b,r,h1,h2,h3,h4,h5,h6,h7,h8⟩:=this
   refine ⟨b,r,h1,by rw [hb.block _ (h.base.lt _ _ h1)];exact h2,h3,h4,h5,h6,h7,fun j v x e1 e2=>(h8 j v x e1 e2).imp (fun q=>q) (aM1 hb)⟩
 newObj:=h.newObj
 spare:=h.spare
theorem post_below (h:SR P mo own s w)(ht:∀k,k.ah6=false->own k=none)(hb:Below w.heap.size w w'):ax1 P mo own w own w' s where
 sr:=sr_below h hb
 priv:=fun k hk _=>ht k hk
 rho:=fun _ _ e=>e
 keep:=⟨hb.os,hb.tape,hb.output,hb.size,fun b hlt _=>hb.block b hlt,fun b x v hc _=>br3 hb hc⟩
 old:=fun _ _ _ h=>h
 oldB:=fun k r hl e _=>⟨k,r,hl,e,rfl⟩
theorem bf6 {f:FuncId}{g:List V->List O->Option Out}(hown:(H.own f).headD false=false)
  (hg:∀args s out,g args s=some out->∃vs,out=.ret vs s/\∀(mo:Nat->Nat->Prop) (own:Own) (w:World) (args':Array Value),SR P mo own s w->Args (Mut mo own) own.rho w args args'->Glob H (Mut mo own) own.rho w ->
   Calls P f args' w fun e w'=>∃v',e=.returned v'/\Below w.heap.size w w'/\VRel (Mut mo own) own.rho w' (one vs) v'):aT6 P H f g:=by
 intro args s out h mo own w args' hsr htok hmo ha hgl
 obtain ⟨vs,rfl,hc⟩:=hg args s out h
 refine (hc mo own w args' hsr ha hgl).mono ?_
 rintro e w' ⟨v',rfl,hb,hv⟩
 refine ⟨own,v',rfl,post_below hsr htok hb,hv,fun _=>htok _ rfl,fun hh=>?_⟩
 unfold ay5 at hh
 rw [hown] at hh
 cases hh
end
end Go.Proofs.YtnpjififnhjbbaaDoor.E
