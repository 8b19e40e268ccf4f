/- It is proved that the evaluation without fuel is worth as much as the one with fuel, and the words in which a function's evaluation is printed. No condition beyond the lemmas' own. -/
import Derived.Test.YtnpjififnhjbbaaDoorEXG
namespace Go.Proofs.YtnpjififnhjbbaaDoor.E
open Go
open Classical in
noncomputable def Lim (F:Nat->R):R:=if h:∃o:Out,∃n0,∀n,n0<=n->F n=some o then some h.choose else none
theorem ba8 {F:Nat->R}{o:Out}(h:Lim F=some o):∃n0,∀n,n0<=n->F n=some o:=by
 unfold Lim at h
 split at h
 ·rename_i hh
  injection h with h
  rw [←h]
  exact hh.choose_spec
 ·cases h
theorem bn4 {F:Nat->R}{o:Out}(n0:Nat)(h:∀n,n0<=n->F n=some o):Lim F=some o:=by
 have hh:∃o:Out,∃n0,∀n,n0<=n->F n=some o:=⟨o,n0,h⟩
 unfold Lim
 rw [dif_pos hh]
 obtain ⟨n1,h1⟩:=hh.choose_spec
 have a:=h1 (n0+n1) (by omega)
 rw [h (n0+n1) (by omega)] at a
 exact a.symm
noncomputable def bw9 (b:Cont->St->R)(K:Cont)(st:St):R:=Lim fun n=>iter b n K st
def bg6 (x:R)(K:List V->R)(KP:V->R):R:=match x with | some (.ret vs _)=>ck (ac0 vs) (K vs) | some (.pan v _)=>ck (aj2 v) (KP v) | none=>none
def aU1 (x:R)(K:List V->List O->R)(KP:V->List O->R):R:=match x with | some (.ret vs s)=>K vs s | some (.pan v s)=>KP v s | none=>none
def aG1 :Nat->List V->(List V->R)->R
 | 0,vs,K=>asNil vs (K [])
 | n+1,vs,K=>aT3 vs fun v r=>aG1 n r fun r=>K (v::r)
theorem openN_s {n:Nat}:∀{vs:List V} {K:List V->R} {o:Out},aG1 n vs K=some o->vs.length=n/\∀K',aG1 n vs K'=K' vs:=by
 induction n with
 | zero=>
  intro vs K o h
  cases vs with
  | nil=>exact ⟨rfl,fun _=>rfl⟩
  | cons _ _=>simp [aG1,asNil] at h
 | succ n ih=>
  intro vs K o h
  cases vs with
  | nil=>simp [aG1,aT3] at h
  | cons v r=>
   simp only [aG1,aT3] at h
   obtain ⟨h1,h2⟩:=ih h
   exact ⟨by simp [h1],fun K'=>by simp only [aG1,aT3];exact h2 _⟩
section
variable (P:Program) (H:ae2)
def nres (g:FuncId):Nat:=match P.funcs[g]? with | some fn=>fn.results.size | none=>0
def ax3 (f:FuncId)(dst:Option Nat)(v:V×Tag)(K:St->R)(st:St):R:=
 aN6 (match dst with | some d=>H.shape f d | none=>.any) v.1 fun v'=>K (st.put dst (v',v.2))
def ay7 (rec:Rec)(g:FuncId)(args:List V)(s:List O)(K:V->List O->R)(KP:V->List O->R):R:=
 match H.ext g with
 | some e=>ck (args.all ad2)<|(e args).bind fun v=>K v s
 | none=>ck (H.ok g)<|ck (args.all ad2)<|bif H.pure g then ck (ac0 args)<|bg6 (rec g args []) (fun vs=>aG1 (nres P g) vs fun l=>K (one l) s) (fun v=>KP v s)
  else aU1 (rec g args s) (fun vs s'=>aG1 (nres P g) vs fun l=>K (one l) s') KP
def aH3 (rec:Rec)(x:V)(args:List V)(s:List O)(K:V->List O->R)(KP:V->List O->R):R:=
 match x with | .func (.func g) first cap=>ck (!(H.own g).headD false) (ay7 P H rec g (first++args++cap) s K KP) | .yld id=>ck (args.all ad2) (aU1 (rec (P.funcs.size+id) args s) (fun vs s'=>K (one vs) s') (fun _ _=>none)) | _=>none
def bg7 (rec:Rec)(x:V)(m:String)(args:List V)(s:List O)(K:V->List O->R)(KP:V->List O->R):R:=
 match x with | .iface t v=>(match H.meth t m with | some g=>ck (!(H.own g).headD false) (ay7 P H rec g (v::args) s K KP) | none=>none) | _=>none
def bc5 (rec:Rec)(f:FuncId)(c:Call)(dst:Option Nat)(st:St)(K:St->R)(KP:V->List O->R):R:=
 match c.callee with
 | .builtin _=>none
 | .value (.func g)=>ay7 P H rec g (evs H st c.args.toList) st.s (fun v s=>bif (H.own g).headD false&&(H.ext g).isNone&&nres P g==1 then (let r:=fresh v {st with s:=s};ax3 H f dst r.1 K r.2) else ax3 H f dst (v,.no) K {st with s:=s}) KP
 | .value fo=>aH3 P H rec (ev H st fo).1 (evs H st c.args.toList) st.s (fun v s=>ax3 H f dst (v,.no) K {st with s:=s}) KP
 | .invoke r m=>bg7 P H rec (ev H st r).1 m (evs H st c.args.toList) st.s (fun v s=>ax3 H f dst (v,.no) K {st with s:=s}) KP
def stepT (rec:Rec)(inr:Bool)(f:FuncId)(o:Oper)(K:St->R)(KP:Cont)(st:St):R:=
 match o.op with
 | .call c=>match c.callee with
  | .builtin _=>opKG P H f (o.dst.getD 0) o.op st fun r=>ax3 H f o.dst r.1 K r.2
  | _=>bc5 P H rec f c o.dst st K (fun v s=>KP (.pan v) {st with s:=s})
 | .defer c=>ck (!inr&&match c.callee with | .value _=>true | _=>false)<|(ag3 H st c).bind fun g=>ck (H.ok g.1&&g.2.all ad2)<|K ({st with d:=g::st.d}.put o.dst (.undef,.no))
 | .panic x=>match (ev H st x).1 with | .iface t v=>KP (.pan (.iface t v)) st | _=>none
 | op=>ck (aw8 H f st op)<|opKG P H f (o.dst.getD 0) op st fun r=>ax3 H f o.dst r.1 K r.2
def St.refine (st:St)(d:Nat)(b:Bool):St:={st with t:=st.t.set d (.bool b,(st.t.getD d (.undef,.no)).2)}
def opsT (rec:Rec)(inr:Bool)(f:FuncId)(all:Array Oper)(K:St->R)(KP:Cont):List Oper->St->R
 | [],st=>K st
 | o::r,st=>match o.guard with
  | none=>stepT P H rec inr f o (opsT rec inr f all K KP r) KP st
  | some (j,want)=>match (all[j]?).bind (·.dst) with
   | none=>none
   | some d=>match (st.t.getD d (.undef,.no)).1 with
    | .bool b=>bif want then (bif b then stepT P H rec inr f o (opsT rec inr f all K KP r) KP (st.refine d true) else opsT rec inr f all K KP r ((st.refine d false).put o.dst (.tup [],.no)))
     else (bif b then opsT rec inr f all K KP r ((st.refine d true).put o.dst (.tup [],.no)) else stepT P H rec inr f o (opsT rec inr f all K KP r) KP (st.refine d false))
    | .tup []=>opsT rec inr f all K KP r (st.put o.dst (.tup [],.no))
    | _=>none
def aB8 (rec:Rec)(f:FuncId)(o:Oper)(st:St)(K:St->R):R:=
 match o.op with
 | .defer _ | .panic _=>none
 | _=>stepT P H rec true f o K (fun _ _=>none) st
def opDT (rec:Rec)(f:FuncId)(all:Array Oper)(i:Nat)(st:St)(K:St->R):R:=
 match all[i]? with
 | none=>none
 | some o=>match o.guard with
  | none=>aB8 P H rec f o st K
  | some (j,want)=>match (all[j]?).bind (·.dst) with
   | none=>none
   | some d=>match (st.t.getD d (.undef,.no)).1 with
    | .bool b=>bif want then (bif b then aB8 P H rec f o (st.refine d true) K else K ((st.refine d false).put o.dst (.tup [],.no))) else (bif b then K ((st.refine d true).put o.dst (.tup [],.no)) else aB8 P H rec f o (st.refine d false) K)
    | .tup []=>K (st.put o.dst (.tup [],.no))
    | _=>none
def au6 (rec:Rec)(f:FuncId)(os:Array Oper)(K:St->R):Nat->Array Bool->St->R
 | 0,S,st=>ck (Region.ready .any os S).isEmpty (K st)
 | n+1,S,st=>match Region.ready .any os S with
  | []=>K st
  | l=>match l.find? (free P H f os S) with
   | some p=>opDT P H rec f os p st (au6 rec f os K n (S.setIfInBounds p true))
   | none=>as4 (l.map fun i=>opDT P H rec f os i st (au6 rec f os K n (S.setIfInBounds i true)))
def regK (b:Bhd)(K:Cont):Cont:=fun
 | .normal,st=>(behind b st).bind (K .normal)
 | e,st=>K e st
noncomputable def ag5 (rec:Rec)(inr:Bool)(f:FuncId):Code->Cont->St->R
 | .skip,K,st=>K .normal st
 | .region id os d,K,st=>
  bif d then au6 P H rec f os (regK (H.br f id) K .normal) os.size (Array.replicate os.size false) st
  else opsT P H rec inr f os (regK (H.br f id) K .normal) (regK (H.br f id) K) os.toList st
 | .seq x y,K,st=>ag5 rec inr f x (seqK (ag5 rec inr f y K) K) st
 | .cond c x y,K,st=>match (ev H st c).1 with | .bool b=>bif b then (branch H f c true st).bind (ag5 rec inr f x K) else (branch H f c false st).bind (ag5 rec inr f y K) | _=>none
 | .block id c,K,st=>ag5 rec inr f c (ay8 id K) st
 | .loop c,K,st=>bw9 (ag5 rec inr f c) K st
 | .exit id,K,st=>K (.exit id) st
 | .ret,K,st=>K .ret st
 | .rangeFunc g ps _ cb,K,st=>ax9 P H rec inr f g ps.toList (aD1 cb) K st
 | _,_,_=>none
end
section
variable {P:Program} {H:ae2}
theorem aC1 {st:St}{d:Nat}{b:Bool}(h:(st.t.getD d (.undef,.no)).1=.bool b):st.refine d b=st:=by
 unfold St.refine
 have hlt:d<st.t.length:=by
  rcases Nat.lt_or_ge d st.t.length with q | q
  ·exact q
  ·rw [List.getD_eq_getElem?_getD,List.getElem?_eq_none q] at h;cases h
 have:st.t.set d (.bool b,(st.t.getD d (.undef,.no)).2)=st.t:=by
  apply List.ext_getElem?
  intro j
  rw [List.getElem?_set]
  split
  ·rename_i e
   subst e
   rw [List.getElem?_eq_getElem hlt]
   rw [List.getD_eq_getElem?_getD,List.getElem?_eq_getElem hlt] at h ⊢
   simp only [Option.getD_some] at h ⊢
   rw [←h]
  ·rfl
 rw [this]
def aF5 (rec:Rec)(recn:Nat->Rec):Prop:=∀f args s o,rec f args s=some o->∃n0,∀n,n0<=n->recn n f args s=some o
theorem at6 (f:FuncId)(dst:Option Nat)(v:V×Tag)(K:St->R)(st:St):ax3 H f dst v K st=goOn H f dst v K st:=by
 unfold ax3 goOn
 rw [openS_eq]
 rfl
theorem aG9 {f:FuncId}{dst:Option Nat}{v:V×Tag}{K:St->R}{st:St}{o:Out}(h:goOn H f dst v K st=some o):∃st',goD H f dst v st=some st'/\K st'=some o/\∀K':St->R,goOn H f dst v K' st=K' st':=by
 unfold goOn at h
 obtain ⟨v',h1,h2⟩:=Option.bind_eq_some_iff.1 h
 exact ⟨_,by unfold goD;rw [h1];rfl,h2,fun K'=>by unfold goOn;rw [h1];rfl⟩
theorem callG_out {rec:Rec}{recn:Nat->Rec}(hm:aF5 rec recn)(g:FuncId)(args:List V)(s:List O)(K:V->List O->R)(KP:V->List O->R)(o:Out)(h:ay7 P H rec g args s K KP=some o):
  (∃v s',K v s'=some o/\(∀K' KP',ay7 P H rec g args s K' KP'=K' v s') /\
   ((∃e,H.ext g=some e/\args.all ad2=true/\e args=some v/\s'=s) ∨
    (H.ext g=none/\H.ok g=true/\args.all ad2=true/\∃vs sr n0,v=one vs/\vs.length=nres P g /\
     ((H.pure g=true/\ac0 args=true/\ac0 vs=true/\s'=s/\∀n,n0<=n->recn n g args []=some (.ret vs sr))∨(H.pure g=false/\s'=sr/\∀n,n0<=n->recn n g args s=some (.ret vs sr)))))) ∨
  (∃v s',KP v s'=some o/\(∀K' KP',ay7 P H rec g args s K' KP'=KP' v s')/\H.ext g=none/\H.ok g=true/\args.all ad2=true/\∃sr n0,
     ((H.pure g=true/\ac0 args=true/\aj2 v=true/\s'=s/\∀n,n0<=n->recn n g args []=some (.pan v sr))∨(H.pure g=false/\s'=sr/\∀n,n0<=n->recn n g args s=some (.pan v sr)))):=by
 unfold ay7 at h
 cases he:H.ext g with
 | some e=>
  rw [he] at h
  simp only at h
  obtain ⟨h1,h⟩:=aa2 h
  obtain ⟨v,hv,h⟩:=Option.bind_eq_some_iff.1 h
  exact .inl ⟨v,s,h,fun K' KP'=>by unfold ay7;rw [he];simp only [ck,h1,cond_true,hv,Option.bind_some],.inl ⟨e,rfl,h1,hv,rfl⟩⟩
 | none=>
  rw [he] at h
  simp only at h
  obtain ⟨h1,h⟩:=aa2 h
  obtain ⟨h2,h⟩:=aa2 h
  cases hp:H.pure g with
  | true=>
   rw [hp] at h
   simp only [cond_true] at h
   obtain ⟨h3,h⟩:=aa2 h
   cases hr:rec g args [] with
   | none=>rw [hr] at h;cases h
   | some out=>
    obtain ⟨n0,hn⟩:=hm g args [] out hr
    rw [hr] at h
    cases out with
    | ret vs sr=>
     simp only [bg6] at h
     obtain ⟨h4,h⟩:=aa2 h
     obtain ⟨h5,h6⟩:=openN_s h
     rw [h6] at h
     exact .inl ⟨one vs,s,h,fun K' KP'=>by unfold ay7;rw [he];simp only [ck,h1,h2,cond_true,hp,h3,hr,bg6,h4,h6],.inr ⟨rfl,h1,h2,vs,sr,n0,rfl,h5,.inl ⟨rfl,h3,h4,rfl,hn⟩⟩⟩
    | pan v sr=>
     simp only [bg6] at h
     obtain ⟨h4,h⟩:=aa2 h
     exact .inr ⟨v,s,h,fun K' KP'=>by unfold ay7;rw [he];simp only [ck,h1,h2,cond_true,hp,h3,hr,bg6,h4],rfl,h1,h2,sr,n0,.inl ⟨rfl,h3,h4,rfl,hn⟩⟩
  | false=>
   rw [hp] at h
   simp only [cond_false] at h
   cases hr:rec g args s with
   | none=>rw [hr] at h;cases h
   | some out=>
    obtain ⟨n0,hn⟩:=hm g args s out hr
    rw [hr] at h
    cases out with
    | ret vs sr=>
     simp only [aU1] at h
     obtain ⟨h5,h6⟩:=openN_s h
     rw [h6] at h
     exact .inl ⟨one vs,sr,h,fun K' KP'=>by unfold ay7;rw [he];simp only [ck,h1,h2,cond_true,hp,cond_false,hr,aU1,h6],.inr ⟨rfl,h1,h2,vs,sr,n0,rfl,h5,.inr ⟨rfl,rfl,hn⟩⟩⟩
    | pan v sr=>
     simp only [aU1] at h
     exact .inr ⟨v,sr,h,fun K' KP'=>by unfold ay7;rw [he];simp only [ck,h1,h2,cond_true,hp,cond_false,hr,aU1],rfl,h1,h2,sr,n0,.inr ⟨rfl,rfl,hn⟩⟩
theorem aY5 {rec':Rec}{f g:FuncId}{args:List V}{dst:Option Nat}{st:St}(hok:args.all ad2=true)(K:St->R)(KP:Cont):
  (∀vs sr,H.pure g=true->ac0 args=true->ac0 vs=true->rec' g args []=some (.ret vs sr)->aA2 H rec' f g args dst st K KP=(bif (H.own g).headD false&&vs.length==1 then (let r:=fresh (one vs) st;goOn H f dst r.1 K r.2) else goOn H f dst (one vs,.no) K st)) /\
  (∀vs sr,H.pure g=false->rec' g args st.s=some (.ret vs sr)->aA2 H rec' f g args dst st K KP=(bif (H.own g).headD false&&vs.length==1 then (let r:=fresh (one vs) {st with s:=sr};goOn H f dst r.1 K r.2) else goOn H f dst (one vs,.no) K {st with s:=sr})) /\
  (∀v sr,H.pure g=true->ac0 args=true->aj2 v=true->rec' g args []=some (.pan v sr)->aA2 H rec' f g args dst st K KP=KP (.pan v) st) /\
  (∀v sr,H.pure g=false->rec' g args st.s=some (.pan v sr)->aA2 H rec' f g args dst st K KP=KP (.pan v) {st with s:=sr}):=by
 refine ⟨fun vs sr h1 h2 h3 h4=>?_,fun vs sr h1 h4=>?_,fun v sr h1 h2 h3 h4=>?_,fun v sr h1 h4=>?_⟩
 ·unfold aA2;simp only [ck,hok,cond_true,h1,h2,h4,Option.bind_some,h3]
 ·unfold aA2;simp only [ck,hok,cond_true,h1,cond_false,h4,Option.bind_some]
 ·unfold aA2;simp only [ck,hok,cond_true,h1,h2,h4,Option.bind_some,h3]
 ·unfold aA2;simp only [ck,hok,cond_true,h1,cond_false,h4,Option.bind_some]
end
end Go.Proofs.YtnpjififnhjbbaaDoor.E
namespace Go.Proofs.YtnpjififnhjbbaaDoor.E
open Go
section
variable {P:Program} {H:ae2}
def Outcome (X:(St->R)->Cont->R)(Y:Nat->(St->R)->Cont->R)(K:St->R)(KP:Cont)(out:Out):Prop:=
 (∃st',K st'=some out/\(∀K' KP',X K' KP'=K' st')/\∃n0,∀n,n0<=n->∀K' KP',Y n K' KP'=K' st') ∨
 (∃v st',KP (.pan v) st'=some out/\(∀K' KP',X K' KP'=KP' (.pan v) st')/\∃n0,∀n,n0<=n->∀K' KP',Y n K' KP'=KP' (.pan v) st')
def ap3 (P:Program)(H:ae2)(f g:FuncId)(dst:Option Nat)(st:St)(K:St->R)(v:V)(s:List O):R:=
 bif (H.own g).headD false&&(H.ext g).isNone&&nres P g==1 then (let r:=fresh v {st with s:=s};ax3 H f dst r.1 K r.2) else ax3 H f dst (v,.no) K {st with s:=s}
theorem yld_none {st:St}{c:Call}{g:FuncId×List V}(h:ag3 H st c=some g):av1 H st c=none:=by
 unfold ag3 at h
 unfold av1
 cases hc:c.callee with
 | builtin b=>rfl
 | invoke r m=>rfl
 | value f=>
  rw [hc] at h
  simp only at h ⊢
  split
  ·rename_i id e
   rw [e] at h
   cases h
  ·rfl
theorem aK2 {rec:Rec}{inr:Bool}{f:FuncId}{o:Oper}{c:Call}{st:St}{g:FuncId}{args:List V}(hop:o.op=.call c)(hnb:∀b,c.callee≠.builtin b)(hcal:ag3 H st c=some (g,args))(K:St->R)(KP:Cont):
  step P H rec inr f o K KP st=match H.ext g with
   | some e=>ck (args.all ad2)<|(e args).bind fun v=>goOn H f o.dst (v,.no) K st
   | none=>ck (H.ok g) (aA2 H rec f g args o.dst st K KP):=by
 unfold step
 rw [hop]
 simp only
 cases hc:c.callee with
 | builtin b=>exact absurd hc (hnb b)
 | value _=>simp only [yld_none hcal,hcal,Option.bind_some];cases H.ext g<;>rfl
 | invoke _ _=>simp only [yld_none hcal,hcal,Option.bind_some];cases H.ext g<;>rfl
theorem bm6 {rec:Rec}{recn:Nat->Rec}(hm:aF5 rec recn){inr:Bool}{f:FuncId}{o:Oper}{c:Call}{st:St}{g:FuncId}{args:List V}(hop:o.op=.call c)(hnb:∀b,c.callee≠.builtin b)(hcal:ag3 H st c=some (g,args))(K:St->R)(KP:Cont)(out:Out)
  (X:(St->R)->Cont->R) (hX:∀K KP,X K KP=ay7 P H rec g args st.s (ap3 P H f g o.dst st K) (fun v s=>KP (.pan v) {st with s:=s})) (h:X K KP=some out):
  Outcome X (fun n K KP=>step P H (recn n) inr f o K KP st) K KP out:=by
 rw [hX] at h
 have hs0:({st with s:=st.s}:St)=st:=rfl
 rcases callG_out hm g args st.s _ _ out h with ⟨v,s',h1,h2,h3⟩ | ⟨v,s',h1,h2,he,hok,hall,sr,n0,h3⟩
 ·unfold ap3 at h1
  rcases h3 with ⟨e,he,hall,hv,rfl⟩ | ⟨he,hok,hall,vs,sr,n0,rfl,hlen,h3⟩
  ·rw [he] at h1
   simp only [Option.isNone_some,Bool.and_false,Bool.false_and,cond_false,at6] at h1
   obtain ⟨st',g1,g2,g3⟩:=aG9 h1
   refine .inl ⟨st',g2,fun K' KP'=>?_,0,fun n _ K' KP'=>?_⟩
   ·rw [hX,h2];unfold ap3;rw [he];simp only [Option.isNone_some,Bool.and_false,Bool.false_and,cond_false,at6];exact g3 K'
   ·refine (aK2 hop hnb hcal _ _).trans ?_;rw [he]
    simp only [ck,hall,cond_true,hv,Option.bind_some]
    exact g3 K'
  ·rw [he] at h1
   simp only [Option.isNone_none,Bool.and_true] at h1
   have key:∀(st2:St),(bif (H.own g).headD false&&nres P g==1 then (let r:=fresh (one vs) st2;ax3 H f o.dst r.1 K r.2) else ax3 H f o.dst (one vs,.no) K st2)=some out ->
     (∀K':St->R,ap3 P H f g o.dst st K' (one vs) s'=(bif (H.own g).headD false&&nres P g==1 then (let r:=fresh (one vs) st2;ax3 H f o.dst r.1 K' r.2) else ax3 H f o.dst (one vs,.no) K' st2)) ->
     (∀n,n0<=n->∀(K':St->R) (KP':Cont),aA2 H (recn n) f g args o.dst st K' KP'=(bif (H.own g).headD false&&vs.length==1 then (let r:=fresh (one vs) st2;goOn H f o.dst r.1 K' r.2) else goOn H f o.dst (one vs,.no) K' st2)) ->
     Outcome X (fun n K KP=>step P H (recn n) inr f o K KP st) K KP out:=by
    intro st2 q1 q2 q3
    have fin:∀st',K st'=some out->(∀K':St->R,(bif (H.own g).headD false&&nres P g==1 then (let r:=fresh (one vs) st2;goOn H f o.dst r.1 K' r.2) else goOn H f o.dst (one vs,.no) K' st2)=K' st')->Outcome X (fun n K KP=>step P H (recn n) inr f o K KP st) K KP out:=by
     intro st' g2 g3
     refine .inl ⟨st',g2,fun K' KP'=>?_,n0,fun n hn K' KP'=>?_⟩
     ·rw [hX,h2,q2];simp only [at6];exact g3 K'
     ·refine (aK2 hop hnb hcal _ _).trans ?_;rw [he]
      simp only [ck,hok,cond_true]
      rw [q3 n hn,hlen]
      exact g3 K'
    cases hb:((H.own g).headD false&&nres P g==1) with
    | true=>
     rw [hb] at q1
     simp only [cond_true,at6] at q1
     obtain ⟨st',g1,g2,g3⟩:=aG9 q1
     exact fin st' g2 (fun K'=>by rw [hb];exact g3 K')
    | false=>
     rw [hb] at q1
     simp only [cond_false,at6] at q1
     obtain ⟨st',g1,g2,g3⟩:=aG9 q1
     exact fin st' g2 (fun K'=>by rw [hb];exact g3 K')
   rcases h3 with ⟨hp,hno,hnv,rfl,hr⟩ | ⟨hp,rfl,hr⟩
   ·refine key st h1 (fun K'=>?_) (fun n hn K' KP'=>?_)
    ·unfold ap3;rw [he];simp only [Option.isNone_none,Bool.and_true]
    ·exact (aY5 hall K' KP').1 vs sr hp hno hnv (hr n hn)
   ·refine key {st with s:=s'} h1 (fun K'=>?_) (fun n hn K' KP'=>?_)
    ·unfold ap3;rw [he];simp only [Option.isNone_none,Bool.and_true]
    ·exact (aY5 hall K' KP').2.1 vs s' hp (hr n hn)
 ·rcases h3 with ⟨hp,hno,hnv,rfl,hr⟩ | ⟨hp,rfl,hr⟩
  ·refine .inr ⟨v,st,h1,fun K' KP'=>by rw [hX,h2],n0,fun n hn K' KP'=>?_⟩
   refine (aK2 hop hnb hcal _ _).trans ?_;rw [he]
   simp only [ck,hok,cond_true]
   exact (aY5 hall K' KP').2.2.1 v sr hp hno hnv (hr n hn)
  ·refine .inr ⟨v,{st with s:=s'},h1,fun K' KP'=>by rw [hX,h2],n0,fun n hn K' KP'=>?_⟩
   refine (aK2 hop hnb hcal _ _).trans ?_;rw [he]
   simp only [ck,hok,cond_true]
   exact (aY5 hall K' KP').2.2.2 v s' hp (hr n hn)
theorem bs9 {rec:Rec}{recn:Nat->Rec}(hm:aF5 rec recn)(inr:Bool)(f:FuncId)(o:Oper)(st:St)(K:St->R)(KP:Cont)(out:Out)(h:stepT P H rec inr f o K KP st=some out):
  Outcome (fun K KP=>stepT P H rec inr f o K KP st) (fun n K KP=>step P H (recn n) inr f o K KP st) K KP out:=by
 have plain:∀(X:(St->R)->Cont->R) (Y:Nat->(St->R)->Cont->R),(∀K KP,X K KP=opKG P H f (o.dst.getD 0) o.op st fun r=>ax3 H f o.dst r.1 K r.2)->(∀n K KP,Y n K KP=(opV P H f (o.dst.getD 0) o.op st).bind fun r=>goOn H f o.dst r.1 K r.2)->X K KP=some out->Outcome X Y K KP out:=by
  intro X Y hX hY h
  rw [hX] at h
  obtain ⟨r,h1,h2⟩:=opKG_s f (o.dst.getD 0) o.op st _ out h
  rw [h2,at6] at h
  obtain ⟨st',g1,g2,g3⟩:=aG9 h
  refine .inl ⟨st',g2,fun K' KP'=>?_,0,fun n _ K' KP'=>?_⟩
  ·rw [hX,h2,at6];exact g3 K'
  ·rw [hY,h1];exact g3 K'
 cases hop:o.op with
 | call c=>
  cases hc:c.callee with
  | builtin b=>
   refine plain _ _ (fun K KP=>?_) (fun n K KP=>?_) h
   ·unfold stepT;rw [hop];simp only [hc]
   ·unfold step;rw [hop];simp only [hc]
  | value fo=>
   have hnb:∀b,c.callee≠.builtin b:=by rw [hc];simp
   have hX0:∀K KP,stepT P H rec inr f o K KP st=bc5 P H rec f c o.dst st K (fun v s=>KP (.pan v) {st with s:=s}):=by
    intro K KP;unfold stepT;rw [hop];simp only [hc]
   have dyn:(∀K KP,bc5 P H rec f c o.dst st K KP=aH3 P H rec (ev H st fo).1 (evs H st c.args.toList) st.s (fun v s=>ax3 H f o.dst (v,.no) K {st with s:=s}) KP)->Outcome (fun K KP=>stepT P H rec inr f o K KP st) (fun n K KP=>step P H (recn n) inr f o K KP st) K KP out:=by
    intro hd
    rw [hX0,hd] at h
    unfold aH3 at h
    split at h
    ·rename_i g first cap hev
     obtain ⟨hown,h⟩:=aa2 h
     have hown:(H.own g).headD false=false:=by simpa using hown
     have hcal:ag3 H st c=some (g,first++evs H st c.args.toList++cap):=by unfold ag3;rw [hc];simp only [hev]
     have hX:∀K KP,stepT P H rec inr f o K KP st=ay7 P H rec g (first++evs H st c.args.toList++cap) st.s (ap3 P H f g o.dst st K) (fun v s=>KP (.pan v) {st with s:=s}):=by
      intro K KP
      rw [hX0,hd]
      unfold aH3
      rw [hev]
      simp only [hown,ck,Bool.not_false,cond_true]
      congr 1
      funext v s
      unfold ap3
      rw [hown]
      simp only [Bool.false_and,cond_false]
     refine bm6 hm hop hnb hcal K KP out _ hX ?_
     show stepT P H rec inr f o K KP st=some out
     rw [hX0,hd]
     unfold aH3
     rw [hev]
     simp only [hown,ck,Bool.not_false,cond_true]
     exact h
    ·rename_i id hev
     obtain ⟨hall,h⟩:=aa2 h
     have hy:av1 H st c=some id:=by unfold av1;rw [hc];simp only [hev]
     cases hr:rec (P.funcs.size+id) (evs H st c.args.toList) st.s with
     | none=>rw [hr] at h;cases h
     | some out0=>
      rw [hr] at h
      cases out0 with
      | pan v s'=>cases h
      | ret vs s'=>
       simp only [aU1,at6] at h
       obtain ⟨st',g1,g2,g3⟩:=aG9 h
       obtain ⟨n0,hn⟩:=hm _ _ _ _ hr
       refine .inl ⟨st',g2,fun K' KP'=>?_,n0,fun n hle K' KP'=>?_⟩
       ·show stepT P H rec inr f o K' KP' st=_
        rw [hX0,hd]
        unfold aH3
        rw [hev]
        simp only [ck,hall,cond_true,hr,aU1,at6]
        exact g3 K'
       ·show step P H (recn n) inr f o K' KP' st=_
        unfold step
        rw [hop]
        simp only [hc,hy]
        unfold aQ1
        simp only [ck,hall,cond_true,hn n hle,Option.bind_some]
        exact g3 K'
    ·cases h
   cases fo with
   | func g=>
    have hcal:ag3 H st c=some (g,evs H st c.args.toList):=by unfold ag3;rw [hc];simp [ev]
    refine bm6 hm hop hnb hcal K KP out _ (fun K KP=>?_) h
    show stepT P H rec inr f o K KP st=_
    rw [hX0];unfold bc5;rw [hc];rfl
   | _=>exact dyn fun K KP=>by unfold bc5;rw [hc]
  | invoke rr m=>
   have hnb:∀b,c.callee≠.builtin b:=by rw [hc];simp
   have hX0:∀K KP,stepT P H rec inr f o K KP st=bg7 P H rec (ev H st rr).1 m (evs H st c.args.toList) st.s (fun v s=>ax3 H f o.dst (v,.no) K {st with s:=s}) (fun v s=>KP (.pan v) {st with s:=s}):=by
    intro K KP;unfold stepT;rw [hop];simp only [hc];unfold bc5;rw [hc]
   rw [hX0] at h
   unfold bg7 at h
   split at h
   ·rename_i t v hev
    split at h
    ·rename_i g hg
     obtain ⟨hown,h⟩:=aa2 h
     have hown:(H.own g).headD false=false:=by simpa using hown
     have hcal:ag3 H st c=some (g,v::evs H st c.args.toList):=by unfold ag3;rw [hc];simp only [hev,hg,Option.map_some]
     have hX:∀K KP,stepT P H rec inr f o K KP st=ay7 P H rec g (v::evs H st c.args.toList) st.s (ap3 P H f g o.dst st K) (fun v s=>KP (.pan v) {st with s:=s}):=by
      intro K KP
      rw [hX0]
      unfold bg7
      rw [hev]
      simp only [hg,hown,ck,Bool.not_false,cond_true]
      congr 1
      funext v s
      unfold ap3
      rw [hown]
      simp only [Bool.false_and,cond_false]
     refine bm6 hm hop hnb hcal K KP out _ hX ?_
     show stepT P H rec inr f o K KP st=some out
     rw [hX0]
     unfold bg7
     rw [hev]
     simp only [hg,hown,ck,Bool.not_false,cond_true]
     exact h
    ·cases h
   ·cases h
 | defer c=>
  have h0:=h
  unfold stepT at h
  rw [hop] at h
  simp only at h
  have hck:=aa2 h
  obtain ⟨h1,h2⟩:=hck
  obtain ⟨g,hg,h2⟩:=Option.bind_eq_some_iff.1 h2
  obtain ⟨h3,h4⟩:=aa2 h2
  refine .inl ⟨_,h4,fun K' KP'=>?_,0,fun n _ K' KP'=>?_⟩
  ·show stepT P H rec inr f o K' KP' st=_
   unfold stepT;rw [hop]
   refine (congrArg (fun b=>ck b _) h1).trans ?_
   show Option.bind _ _=_
   rw [hg]
   exact (congrArg (fun b=>ck b _) h3)
  ·unfold step;rw [hop]
   refine (congrArg (fun b=>ck b _) h1).trans ?_
   show Option.bind _ _=_
   rw [hg]
   exact (congrArg (fun b=>ck b _) h3)
 | panic x=>
  unfold stepT at h
  rw [hop] at h
  simp only at h
  split at h
  ·rename_i t v e
   refine .inr ⟨.iface t v,st,h,fun K' KP'=>?_,0,fun n _ K' KP'=>?_⟩
   ·show stepT P H rec inr f o K' KP' st=_
    unfold stepT;rw [hop];simp only [e]
   ·unfold step;rw [hop];simp only [e]
  ·cases h
 | _=>
  unfold stepT at h
  rw [hop] at h
  simp only at h
  obtain ⟨hck,h⟩:=aa2 h
  have hs:∀K KP,stepT P H rec inr f o K KP st=opKG P H f (o.dst.getD 0) o.op st fun r=>ax3 H f o.dst r.1 K r.2:=by
   intro K KP;unfold stepT;rw [hop];simp only [ck,hck,cond_true]
  refine plain _ _ hs (fun n K KP=>?_) (by rw [hs,hop];exact h)
  unfold step;rw [hop];simp only [ck,hck,cond_true]
end
end Go.Proofs.YtnpjififnhjbbaaDoor.E
namespace Go.Proofs.YtnpjififnhjbbaaDoor.E
open Go
section
variable {P:Program} {H:ae2}
def Fine (L:List (Ex×St))(K:Cont)(o:Out):Prop:=∀p∈L,K p.1 p.2=some o
def ad3 (X:Cont->R)(Y:Nat->Cont->R):Prop:=∀K o,X K=some o->∃L,Fine L K o/\(∀K' o',Fine L K' o'->X K'=some o')/\∃n0,∀n,n0<=n->∀K' o',Fine L K' o'->Y n K'=some o'
theorem Fine.app {L L':List (Ex×St)}{K:Cont}{o:Out}:Fine (L++L') K o↔Fine L K o/\Fine L' K o:=by
 unfold Fine
 constructor
 ·exact fun h=>⟨fun p hp=>h p (List.mem_append_left _ hp),fun p hp=>h p (List.mem_append_right _ hp)⟩
 ·rintro ⟨h1,h2⟩ p hp
  rcases List.mem_append.1 hp with q | q
  ·exact h1 p q
  ·exact h2 p q
theorem comb {I:Type}(T:I->Cont->Ex->St->R)(Tn:Nat->I->Cont->Ex->St->R)(K:Cont)(o:Out):∀(L1:List (Ex×St)),
  (∀p∈L1,∃L,Fine L K o/\(∀K' o',Fine L K' o'->∀i,T i K' p.1 p.2=some o')/\∃n0,∀n,n0<=n->∀K' o',Fine L K' o'->∀i,Tn n i K' p.1 p.2=some o') ->
  ∃L,Fine L K o/\(∀K' o',Fine L K' o'->∀i,∀p∈L1,T i K' p.1 p.2=some o')/\∃n0,∀n,n0<=n->∀K' o',Fine L K' o'->∀i,∀p∈L1,Tn n i K' p.1 p.2=some o'
 | [],_=>⟨[],(fun p hp=>by cases hp),(fun _ _ _ _ p hp=>by cases hp),0,(fun _ _ _ _ _ _ p hp=>by cases hp)⟩
 | p::r,h=>by
  obtain ⟨L,a1,a2,n0,a3⟩:=h p (List.mem_cons_self)
  obtain ⟨L',b1,b2,n1,b3⟩:=comb T Tn K o r fun q hq=>h q (List.mem_cons_of_mem _ hq)
  refine ⟨L++L',Fine.app.2 ⟨a1,b1⟩,fun K' o' hf i q hq=>?_,n0+n1,fun n hn K' o' hf i q hq=>?_⟩
  ·obtain ⟨f1,f2⟩:=Fine.app.1 hf
   rcases List.mem_cons.1 hq with rfl | hq
   ·exact a2 K' o' f1 i
   ·exact b2 K' o' f2 i q hq
  ·obtain ⟨f1,f2⟩:=Fine.app.1 hf
   rcases List.mem_cons.1 hq with rfl | hq
   ·exact a3 n (by omega) K' o' f1 i
   ·exact b3 n (by omega) K' o' f2 i q hq
theorem ad3.bind {X:Cont->R}{Y:Nat->Cont->R}(h:ad3 X Y)(T:Cont->Cont)(Tn:Nat->Cont->Cont)
  (hp:∀e st,ad3 (fun K=>T K e st) (fun n K=>Tn n K e st)):ad3 (fun K=>X (T K)) (fun n K=>Y n (Tn n K)):=by
 intro K o hx
 obtain ⟨L1,f1,h1,n1,h2⟩:=h _ o hx
 obtain ⟨L,a1,a2,n0,a3⟩:=comb (I:=Unit) (fun _ K=>T K) (fun n _ K=>Tn n K) K o L1 (fun p hpm=>by
  obtain ⟨L,b1,b2,n0,b3⟩:=hp p.1 p.2 K o (f1 p hpm)
  exact ⟨L,b1,fun K' o' hf _=>b2 K' o' hf,n0,fun n hn K' o' hf _=>b3 n hn K' o' hf⟩)
 exact ⟨L,a1,fun K' o' hf=>h1 _ _ fun p hpm=>a2 K' o' hf () p hpm,n0+n1,fun n hn K' o' hf=>h2 n (by omega) _ _ fun p hpm=>a3 n (by omega) K' o' hf () p hpm⟩
theorem ad3.self (e:Ex)(st:St):ad3 (fun K=>K e st) (fun _ K=>K e st):=fun K o h=>
 ⟨[(e,st)],(fun p hp=>by simp at hp;subst hp;exact h),fun K' o' hf=>hf (e,st) (by simp),0,fun n _ K' o' hf=>hf (e,st) (by simp)⟩
theorem ad3.none (Y:Nat->Cont->R):ad3 (fun _=>none) Y:=fun K o h=>by cases h
theorem ad3.bv5 {α:Type}(x:Option α){X:α->Cont->R}{Y:α->Nat->Cont->R}(h:∀a,ad3 (X a) (Y a)):ad3 (fun K=>x.bind fun a=>X a K) (fun n K=>x.bind fun a=>Y a n K):=by
 cases x with
 | none=>exact ad3.none _
 | some a=>exact h a
theorem Outcome.comes {X:(St->R)->Cont->R}{Y:Nat->(St->R)->Cont->R}(h:∀K KP o,X K KP=some o->Outcome X Y K KP o)(T:Cont->St->R)(Tn:Nat->Cont->St->R)(hT:∀st,ad3 (fun K=>T K st) (fun n K=>Tn n K st)):
  ad3 (fun K=>X (T K) K) (fun n K=>Y n (Tn n K) K):=by
 intro K o hx
 rcases h _ _ _ hx with ⟨st',h1,h2,n0,h3⟩ | ⟨v,st',h1,h2,n0,h3⟩
 ·obtain ⟨L,a1,a2,n1,a3⟩:=hT st' K o h1
  exact ⟨L,a1,fun K' o' hf=>(h2 _ _).trans (a2 K' o' hf),n0+n1,fun n hn K' o' hf=>(h3 n (by omega) _ _).trans (a3 n (by omega) K' o' hf)⟩
 ·exact ⟨[(.pan v,st')],(fun p hp=>by simp at hp;subst hp;exact h1),fun K' o' hf=>(h2 _ _).trans (hf (.pan v,st') (by simp)),n0,fun n hn K' o' hf=>(h3 n hn _ _).trans (hf (.pan v,st') (by simp))⟩
theorem bp9 {rec:Rec}{recn:Nat->Rec}(hm:aF5 rec recn)(inr:Bool)(f:FuncId)(all:Array Oper):∀(l:List Oper) (st:St),
  ad3 (fun K=>opsT P H rec inr f all (K .normal) K l st) (fun n K=>ops P H (recn n) inr f all (K .normal) K l st)
 | [],st=>ad3.self .normal st
 | o::r,st=>by
  have ih:=bp9 hm inr f all r
  have go:ad3 (fun K=>stepT P H rec inr f o (opsT P H rec inr f all (K .normal) K r) K st) (fun n K=>step P H (recn n) inr f o (ops P H (recn n) inr f all (K .normal) K r) K st):=
   Outcome.comes (X:=fun K KP=>stepT P H rec inr f o K KP st) (Y:=fun n K KP=>step P H (recn n) inr f o K KP st) (fun K KP o' h=>bs9 hm inr f o st K KP o' h) (fun K=>opsT P H rec inr f all (K .normal) K r) (fun n K=>ops P H (recn n) inr f all (K .normal) K r) ih
  simp only [opsT,ops]
  cases hg:o.guard with
  | none=>exact go
  | some g=>
   obtain ⟨j,want⟩:=g
   simp only
   cases (all[j]?).bind (·.dst) with
   | none=>exact ad3.none _
   | some d=>
    simp only [Option.map_some]
    generalize hv:(st.t.getD d (.undef,.no)).1=v
    cases v with
    | bool b=>
     simp only
     cases want<;>cases b<;>simp only [cond_true,cond_false,beq_self_eq_true,show (true==false)=false from rfl,show (false==true)=false from rfl,aC1 hv]<;>first | exact go | exact ih _
    | tup vs=>cases vs with
     | nil=>exact ih _
     | cons _ _=>exact ad3.none _
    | _=>exact ad3.none _
theorem an6 {f:FuncId}{dst:Option Nat}{v:V×Tag}{st:St}{K:St->R}{o:Out}(h:goOn H f dst v K st=some o):∃s2,goD H f dst v st=some s2:=let ⟨s2,h1,_⟩:=aG9 h;⟨s2,h1⟩
theorem aU2 {rec:Rec}{f g:FuncId}{args:List V}{dst:Option Nat}{st:St}{K:St->R}{o:Out}(h:aA2 H rec f g args dst st K (fun _ _=>none)=some o):∃s2,aH4 H rec f g args dst st=some s2:=by
 unfold aA2 at h
 obtain ⟨c1,h⟩:=aa2 h
 unfold aH4
 simp only [ck,c1,cond_true]
 cases hp:H.pure g with
 | false=>
  rw [hp] at h
  simp only [cond_false] at h ⊢
  obtain ⟨out,ho,h⟩:=Option.bind_eq_some_iff.1 h
  rw [ho]
  simp only [Option.bind_some]
  cases out with
  | pan v s=>cases h
  | ret vs s=>
   simp only at h ⊢
   cases hh:((H.own g).headD false&&vs.length==1) with
   | true=>rw [hh] at h;exact an6 h
   | false=>rw [hh] at h;exact an6 h
 | true=>
  rw [hp] at h
  simp only [cond_true] at h ⊢
  obtain ⟨c2,h⟩:=aa2 h
  simp only [c2,cond_true]
  obtain ⟨out,ho,h⟩:=Option.bind_eq_some_iff.1 h
  rw [ho]
  simp only [Option.bind_some]
  cases out with
  | pan v s=>obtain ⟨_,h⟩:=aa2 h;cases h
  | ret vs s=>
   simp only at h ⊢
   obtain ⟨c3,h⟩:=aa2 h
   simp only [c3,cond_true]
   cases hh:((H.own g).headD false&&vs.length==1) with
   | true=>rw [hh] at h;exact an6 h
   | false=>rw [hh] at h;exact an6 h
theorem aN4 {rec:Rec}{f:FuncId}{id:Nat}{args:List V}{dst:Option Nat}{st:St}{K:St->R}{o:Out}(h:aQ1 P H rec f id args dst st K=some o):∃s2,aM4 P H rec f id args dst st=some s2:=by
 unfold aQ1 at h
 unfold aM4
 obtain ⟨c1,h⟩:=aa2 h
 obtain ⟨out,ho,h⟩:=Option.bind_eq_some_iff.1 h
 simp only [ck,c1,cond_true,ho,Option.bind_some]
 cases out with
 | pan v s=>cases h
 | ret vs s=>exact an6 h
theorem stepD_of_step {rec:Rec}{inr:Bool}{f:FuncId}{o:Oper}{st:St}{K:St->R}{out:Out}(h1:∀c,o.op≠.defer c)(h2:∀x,o.op≠.panic x)(h:step P H rec inr f o K (fun _ _=>none) st=some out):∃s2,am2 P H rec f o st=some s2:=by
 cases hop:o.op with
 | call c=>
  unfold step at h
  unfold am2
  rw [hop] at h ⊢
  simp only at h ⊢
  cases hc:c.callee with
  | builtin b=>
   simp only [hc] at h ⊢
   obtain ⟨r,hr,h⟩:=Option.bind_eq_some_iff.1 h
   rw [hr]
   exact an6 h
  | value fo=>
   simp only [hc] at h ⊢
   cases hy:av1 H st c with
   | some id=>
    rw [hy] at h
    exact aN4 h
   | none=>
   rw [hy] at h
   simp only at h ⊢
   obtain ⟨g,hg,h⟩:=Option.bind_eq_some_iff.1 h
   rw [hg]
   simp only [Option.bind_some]
   cases he:H.ext g.1 with
   | some e=>
    rw [he] at h
    simp only at h ⊢
    obtain ⟨c1,h⟩:=aa2 h
    obtain ⟨v,hv,h⟩:=Option.bind_eq_some_iff.1 h
    simp only [ck,c1,cond_true,hv,Option.bind_some]
    exact an6 h
   | none=>
    rw [he] at h
    simp only at h ⊢
    obtain ⟨c1,h⟩:=aa2 h
    simp only [ck,c1,cond_true]
    exact aU2 h
  | invoke r m=>
   simp only [hc] at h ⊢
   cases hy:av1 H st c with
   | some id=>
    rw [hy] at h
    exact aN4 h
   | none=>
   rw [hy] at h
   simp only at h ⊢
   obtain ⟨g,hg,h⟩:=Option.bind_eq_some_iff.1 h
   rw [hg]
   simp only [Option.bind_some]
   cases he:H.ext g.1 with
   | some e=>
    rw [he] at h
    simp only at h ⊢
    obtain ⟨c1,h⟩:=aa2 h
    obtain ⟨v,hv,h⟩:=Option.bind_eq_some_iff.1 h
    simp only [ck,c1,cond_true,hv,Option.bind_some]
    exact an6 h
   | none=>
    rw [he] at h
    simp only at h ⊢
    obtain ⟨c1,h⟩:=aa2 h
    simp only [ck,c1,cond_true]
    exact aU2 h
 | defer c=>exact absurd hop (h1 c)
 | panic x=>exact absurd hop (h2 x)
 | _=>
  unfold step at h
  unfold am2
  rw [hop] at h ⊢
  simp only at h ⊢
  obtain ⟨c1,h⟩:=aa2 h
  obtain ⟨r,hr,h⟩:=Option.bind_eq_some_iff.1 h
  simp only [ck,c1,cond_true,hr,Option.bind_some]
  exact an6 h
theorem bp6 {rec:Rec}{recn:Nat->Rec}(hm:aF5 rec recn)(f:FuncId)(o:Oper)(st:St)(K:St->R)(out:Out)(h:aB8 P H rec f o st K=some out):
  ∃st',K st'=some out/\(∀K',aB8 P H rec f o st K'=K' st')/\∃n0,∀n,n0<=n->am2 P H (recn n) f o st=some st':=by
 have hnd:(∀c,o.op≠.defer c)/\(∀x,o.op≠.panic x)/\∀K,aB8 P H rec f o st K=stepT P H rec true f o K (fun _ _=>none) st:=by
  unfold aB8 at h ⊢
  cases hop:o.op with
  | defer c=>rw [hop] at h;cases h
  | panic x=>rw [hop] at h;cases h
  | _=>exact ⟨by simp,by simp,fun K=>rfl⟩
 obtain ⟨h1,h2,h3⟩:=hnd
 rw [h3] at h
 rcases bs9 hm true f o st K _ out h with ⟨st',g1,g2,n0,g3⟩ | ⟨v,st',g1,_⟩
 ·refine ⟨st',g1,fun K'=>by rw [h3];exact g2 K' _,n0,fun n hn=>?_⟩
  have key:∀n,n0<=n->am2 P H (recn n) f o st=some st':=by
   intro n hn
   classical
   have hk:=g3 n hn
   have ex:∃s2,am2 P H (recn n) f o st=some s2:=by
    have hk1:=hk (fun _=>some (.ret [] [])) (fun _ _=>none)
    simp only at hk1
    exact stepD_of_step h1 h2 hk1
   obtain ⟨s2,hs2⟩:=ex
   have h5:=(hk (fun x=>if x=st' then some (.ret [] []) else none) (fun _ _=>none)).symm.trans (bp4 (inr:=true) hs2 (fun x=>if x=st' then some (.ret [] []) else none) (fun _ _=>none))
   simp only [if_true] at h5
   split at h5
   ·rename_i e;rw [hs2,e]
   ·cases h5
  exact key n hn
 ·cases g1
end
end Go.Proofs.YtnpjififnhjbbaaDoor.E
namespace Go.Proofs.YtnpjififnhjbbaaDoor.E
open Go
mutual
theorem aH6 :∀a:V,beqV a a=true
 | .undef | .nilptr | .nilmap | .nilfunc | .nilif=>by simp [beqV]
 | .bool _ | .int _ _ | .str _ | .obj _ _ | .slo _ _ _ _ _ | .loc _ _ | .map _ | .yld _=>by simp [beqV]
 | .list n k es=>by simp [beqV,ar4 es]
 | .agg es=>by simp [beqV,ar4 es]
 | .tup es=>by simp [beqV,ar4 es]
 | .ref es=>by simp [beqV,ar4 es]
 | .func f a b=>by simp [beqV,ar4 a,ar4 b,fnB]
 | .iface t v=>by simp [beqV,aH6 v]
theorem ar4 :∀a:List V,aH5 a a=true
 | []=>rfl
 | v::r=>by simp [aH5,aH6 v,ar4 r]
end
theorem bA8 :∀a:List (V×Bool),beqC a a=true
 | []=>rfl
 | v::r=>by simp [beqC,aH6,bA8 r]
theorem bA7 :∀a:List (V×V),beqE a a=true
 | []=>rfl
 | v::r=>by simp [beqE,aH6,bA7 r]
theorem beqO_refl (a:O):beqO a a=true:=by cases a<;>simp [beqO,bA8,bA7,ar4]
theorem br2 :∀a:List O,bd1 a a=true
 | []=>rfl
 | v::r=>by simp [bd1,beqO_refl,br2 r]
theorem bg9 (a:Out):bd0 a a=true:=by cases a<;>simp [bd0,ar4,aH6,br2]
theorem both_of {x y:R}{o:Out}(h1:x=some o)(h2:y=some o):both x y=some o:=by
 subst h1;subst h2;simp [both,bg9]
theorem bn2 {o:Out}:∀(l:List R),l≠[]->(∀x∈l,x=some o)->as4 l=some o
 | [],h,_=>absurd rfl h
 | [x],_,h=>h x (by simp)
 | x::y::r,_,h=>both_of (h x (by simp)) (bn2 (y::r) (by simp) fun z hz=>h z (List.mem_cons_of_mem _ hz))
section
variable {P:Program} {H:ae2}
theorem opDT_out {rec:Rec}{recn:Nat->Rec}(hm:aF5 rec recn)(f:FuncId)(all:Array Oper)(i:Nat)(st:St)(K:St->R)(out:Out)(h:opDT P H rec f all i st K=some out):
  ∃st',K st'=some out/\(∀K',opDT P H rec f all i st K'=K' st')/\∃n0,∀n,n0<=n->opD P H (recn n) f all i st=some st':=by
 unfold opDT at h
 cases ho:all[i]? with
 | none=>rw [ho] at h;cases h
 | some o=>
  rw [ho] at h
  simp only at h
  cases hg:o.guard with
  | none=>
   rw [hg] at h
   obtain ⟨st',a1,a2,n0,a3⟩:=bp6 hm f o st K out h
   exact ⟨st',a1,fun K'=>by unfold opDT;rw [ho];simp only [hg];exact a2 K',n0,fun n hn=>by unfold opD;rw [ho];simp only [Option.bind_some,hg];exact a3 n hn⟩
  | some g=>
   obtain ⟨j,want⟩:=g
   rw [hg] at h
   simp only at h
   cases hd0:(all[j]?).bind (·.dst) with
   | none=>rw [hd0] at h;cases h
   | some d=>
    rw [hd0] at h
    simp only at h
    generalize hv:(st.t.getD d (.undef,.no)).1=v at h
    have hd:((all[j]?).bind (·.dst)).map (fun d=>(st.t.getD d (.undef,.no)).1)=some v:=by rw [hd0,Option.map_some,hv]
    have skip:K (st.put o.dst (.tup [],.no))=some out->(∀K':St->R,opDT P H rec f all i st K'=K' (st.put o.dst (.tup [],.no)))->(∀n,opD P H (recn n) f all i st=some (st.put o.dst (.tup [],.no)))->∃st',K st'=some out/\(∀K':St->R,opDT P H rec f all i st K'=K' st')/\∃n0,∀n,n0<=n->opD P H (recn n) f all i st=some st':=
     fun e1 e2 e3=>⟨_,e1,e2,0,fun n _=>e3 n⟩
    have go:aB8 P H rec f o st K=some out->(∀K':St->R,opDT P H rec f all i st K'=aB8 P H rec f o st K')->(∀n,opD P H (recn n) f all i st=am2 P H (recn n) f o st)->∃st',K st'=some out/\(∀K':St->R,opDT P H rec f all i st K'=K' st')/\∃n0,∀n,n0<=n->opD P H (recn n) f all i st=some st':=by
     intro e1 e2 e3
     obtain ⟨st',a1,a2,n0,a3⟩:=bp6 hm f o st K out e1
     exact ⟨st',a1,fun K'=>(e2 K').trans (a2 K'),n0,fun n hn=>(e3 n).trans (a3 n hn)⟩
    cases v with
    | bool b=>
     simp only at h
     cases want<;>cases b<;>simp only [cond_true,cond_false,aC1 hv] at h
     ·refine go h (fun K'=>?_) (fun n=>?_)
      ·unfold opDT;rw [ho];simp only [hg,hd0,hv,cond_false,aC1 hv]
      ·unfold opD;rw [ho];simp only [Option.bind_some,hg,hd,beq_self_eq_true,cond_true]
     ·refine skip h (fun K'=>?_) (fun n=>?_)
      ·unfold opDT;rw [ho];simp only [hg,hd0,hv,cond_true,cond_false,aC1 hv]
      ·unfold opD;rw [ho];simp only [Option.bind_some,hg,hd,show (true==false)=false from rfl,cond_false]
     ·refine skip h (fun K'=>?_) (fun n=>?_)
      ·unfold opDT;rw [ho];simp only [hg,hd0,hv,cond_true,cond_false,aC1 hv]
      ·unfold opD;rw [ho];simp only [Option.bind_some,hg,hd,show (false==true)=false from rfl,cond_false]
     ·refine go h (fun K'=>?_) (fun n=>?_)
      ·unfold opDT;rw [ho];simp only [hg,hd0,hv,cond_true,aC1 hv]
      ·unfold opD;rw [ho];simp only [Option.bind_some,hg,hd,beq_self_eq_true,cond_true]
    | tup vs=>cases vs with
     | nil=>
      refine skip h (fun K'=>?_) (fun n=>?_)
      ·unfold opDT;rw [ho];simp only [hg,hd0,hv]
      ·unfold opD;rw [ho];simp only [Option.bind_some,hg,hd]
     | cons _ _=>cases h
    | _=>cases h
theorem drawnT_comes {rec:Rec}{recn:Nat->Rec}(hm:aF5 rec recn)(f:FuncId)(os:Array Oper):∀(n:Nat) (S:Array Bool) (st:St),
  ad3 (fun K=>au6 P H rec f os (K .normal) n S st) (fun m K=>drawn P H (recn m) f os (K .normal) n S st):=by
 intro n
 induction n with
 | zero=>
  intro S st
  simp only [au6,drawn]
  unfold ck
  cases (Region.ready .any os S).isEmpty with
  | true=>exact ad3.self .normal st
  | false=>exact ad3.none _
 | succ n ih=>
  intro S st
  have one:∀p,ad3 (fun K=>opDT P H rec f os p st (au6 P H rec f os (K .normal) n (S.setIfInBounds p true))) (fun m K=>(opD P H (recn m) f os p st).bind (drawn P H (recn m) f os (K .normal) n (S.setIfInBounds p true))):=by
   intro p K o h
   obtain ⟨st',a1,a2,n0,a3⟩:=opDT_out hm f os p st _ o h
   obtain ⟨L,b1,b2,n1,b3⟩:=ih (S.setIfInBounds p true) st' K o a1
   refine ⟨L,b1,fun K' o' hf=>(a2 _).trans (b2 K' o' hf),n0+n1,fun m hm' K' o' hf=>?_⟩
   show (opD P H (recn m) f os p st).bind _=_
   rw [a3 m (by omega)]
   exact b3 m (by omega) K' o' hf
  simp only [au6,drawn]
  cases hr:Region.ready .any os S with
  | nil=>exact ad3.self .normal st
  | cons a r=>
   simp only
   cases hfd:(a::r).find? (free P H f os S) with
   | some p=>exact one p
   | none=>
    intro K o h
    have hall:=aW2 _ h
    have key:∀l:List Nat,(∀i∈l,opDT P H rec f os i st (au6 P H rec f os (K .normal) n (S.setIfInBounds i true))=some o) ->
      ∃L,Fine L K o/\(∀K' o',Fine L K' o'->∀i∈l,opDT P H rec f os i st (au6 P H rec f os (K' .normal) n (S.setIfInBounds i true))=some o') /\
       ∃n0,∀m,n0<=m->∀K' o',Fine L K' o'->∀i∈l,(opD P H (recn m) f os i st).bind (drawn P H (recn m) f os (K' .normal) n (S.setIfInBounds i true))=some o':=by
     intro l
     induction l with
     | nil=>exact fun _=>⟨[],(fun p hp=>by cases hp),(fun _ _ _ i hi=>by cases hi),0,(fun _ _ _ _ _ i hi=>by cases hi)⟩
     | cons i l ihl=>
      intro hl
      obtain ⟨L,a1,a2,n0,a3⟩:=one i K o (hl i (by simp))
      obtain ⟨L',b1,b2,n1,b3⟩:=ihl fun j hj=>hl j (List.mem_cons_of_mem _ hj)
      refine ⟨L++L',Fine.app.2 ⟨a1,b1⟩,fun K' o' hf j hj=>?_,n0+n1,fun m hm' K' o' hf j hj=>?_⟩
      ·obtain ⟨f1,f2⟩:=Fine.app.1 hf
       rcases List.mem_cons.1 hj with rfl | hj
       ·exact a2 K' o' f1
       ·exact b2 K' o' f2 j hj
      ·obtain ⟨f1,f2⟩:=Fine.app.1 hf
       rcases List.mem_cons.1 hj with rfl | hj
       ·exact a3 m (by omega) K' o' f1
       ·exact b3 m (by omega) K' o' f2 j hj
    obtain ⟨L,a1,a2,n0,a3⟩:=key (a::r) fun i hi=>hall _ (List.mem_map_of_mem hi)
    refine ⟨L,a1,fun K' o' hf=>bn2 _ (by simp) fun x hx=>?_,n0,fun m hm' K' o' hf=>bn2 _ (by simp) fun x hx=>?_⟩
    ·obtain ⟨i,hi,rfl⟩:=List.mem_map.1 hx
     exact a2 K' o' hf i hi
    ·obtain ⟨i,hi,rfl⟩:=List.mem_map.1 hx
     exact a3 m hm' K' o' hf i hi
theorem callV_kp {rec:Rec}{f g:FuncId}{args:List V}{dst:Option Nat}{st:St}{K:St->R}{KP KP':Cont}(h:∀v st,KP (.pan v) st=KP' (.pan v) st):aA2 H rec f g args dst st K KP=aA2 H rec f g args dst st K KP':=by
 unfold aA2
 congr 1
 cases H.pure g with
 | true=>
  simp only [cond_true]
  congr 1
  cases rec g args [] with
  | none=>rfl
  | some o=>cases o with
   | ret vs s=>rfl
   | pan v s=>simp only [Option.bind_some,h]
 | false=>
  simp only [cond_false]
  cases rec g args st.s with
  | none=>rfl
  | some o=>cases o with
   | ret vs s=>rfl
   | pan v s=>simp only [Option.bind_some,h]
theorem step_kp {rec:Rec}{inr:Bool}{f:FuncId}{o:Oper}{K:St->R}{KP KP':Cont}(h:∀v st,KP (.pan v) st=KP' (.pan v) st)(st:St):step P H rec inr f o K KP st=step P H rec inr f o K KP' st:=by
 unfold step
 cases o.op with
 | call c=>
  simp only
  cases c.callee with
  | builtin b=>rfl
  | value fo=>
   simp only
   cases av1 H st c with
   | some id=>rfl
   | none=>
   simp only
   cases ag3 H st c with
   | none=>rfl
   | some g=>
    simp only [Option.bind_some]
    cases H.ext g.1 with
    | some e=>rfl
    | none=>simp only;rw [callV_kp h]
  | invoke r m=>
   simp only
   cases av1 H st c with
   | some id=>rfl
   | none=>
   simp only
   cases ag3 H st c with
   | none=>rfl
   | some g=>
    simp only [Option.bind_some]
    cases H.ext g.1 with
    | some e=>rfl
    | none=>simp only;rw [callV_kp h]
 | panic x=>
  simp only
  cases (ev H st x).1<;>first | rfl | exact h _ _
 | _=>rfl
theorem ops_kp {rec:Rec}{inr:Bool}{f:FuncId}{all:Array Oper}{K:St->R}{KP KP':Cont}(h:∀v st,KP (.pan v) st=KP' (.pan v) st):∀(l:List Oper) (st:St),ops P H rec inr f all K KP l st=ops P H rec inr f all K KP' l st
 | [],st=>rfl
 | o::r,st=>by
  have ih:ops P H rec inr f all K KP r=ops P H rec inr f all K KP' r:=funext (ops_kp h r)
  simp only [ops]
  rw [ih]
  simp only [step_kp h]
theorem bg2 (st:St)(e:Nat):∀es:List Nat,ad3 (fun K=>bc0 es e fun e=>K (.exit e) st) (fun _ K=>bc0 es e fun e=>K (.exit e) st)
 | []=>ad3.none _
 | a::r=>by
  simp only [bc0]
  cases Nat.beq a e with
  | true=>exact ad3.self (.exit a) st
  | false=>exact bg2 st e r
theorem jumpK_comes (es:List Nat)(st:St)(pend:Option (Option Nat)):ad3 (fun K=>jumpK es K st pend) (fun _ K=>jumpK es K st pend):=by
 cases pend with
 | none=>exact ad3.self .normal st
 | some j=>cases j with
  | none=>exact ad3.self .ret st
  | some e=>exact bg2 st e es
theorem rangeV_comes {rec:Rec}{recn:Nat->Rec}(hm:aF5 rec recn)(inr:Bool)(f:FuncId)(g:Operand)(ps es:List Nat)(st:St):ad3 (fun K=>ax9 P H rec inr f g ps es K st) (fun n K=>ax9 P H (recn n) inr f g ps es K st):=by
 intro K o h
 have h0:=h
 unfold ax9 at h
 have hck:=aa2 h
 clear h
 obtain ⟨c1,h⟩:=hck
 split at h
 ·rename_i hf first cap hev
  have hck:=aa2 h
  clear h
  obtain ⟨c2,h⟩:=hck
  obtain ⟨out,ho,h⟩:=Option.bind_eq_some_iff.1 h
  obtain ⟨n0,hn⟩:=hm _ _ _ _ ho
  have key:∀(rec':Rec),rec' hf (first++[.yld st.s.length]++cap) (st.s++[.loop f ps (st.t.map fun p=>bt8 p.1) 0 none])=some out->∀K':Cont,ax9 P H rec' inr f g ps es K' st=aR1 es K' st out:=by
   intro rec' hr K'
   unfold ax9
   simp only [ck,c1,cond_true,hev,c2,hr,Option.bind_some]
  have fin:ad3 (fun K':Cont=>aR1 es K' st out) (fun _ K'=>aR1 es K' st out):=by
   unfold aR1 lpK
   cases out with
   | pan v s=>exact ad3.self (.pan v) _
   | ret vs s=>
    simp only
    cases s[st.s.length]? with
    | none=>exact ad3.none _
    | some o=>cases o with
     | loop f' ps' t' q pend=>
      simp only
      unfold ck
      cases !(Nat.beq q 1) with
      | true=>exact jumpK_comes _ _ _
      | false=>exact ad3.none _
     | _=>exact ad3.none _
  obtain ⟨L,a1,a2,n1,a3⟩:=fin K o (show aR1 es K st out=some o by rw [←key rec ho K];exact h0)
  exact ⟨L,a1,fun K' o' hf=>by show ax9 P H rec inr _ g ps es K' st=_;rw [key rec ho];exact a2 K' o' hf,n0+n1,fun n hle K' o' hf=>by show ax9 P H (recn n) inr _ g ps es K' st=_;rw [key (recn n) (hn n (by omega))];exact a3 n (by omega) K' o' hf⟩
 ·cases h
theorem aA1 {rec:Rec}{recn:Nat->Rec}(hm:aF5 rec recn)(inr:Bool)(f:FuncId)(c:Code):∀st,ad3 (fun K=>ag5 P H rec inr f c K st) (fun n K=>code P H (recn n) n inr f c K st):=by
 have hreg:∀(b:Bhd) (e:Ex) (st:St),ad3 (fun K=>regK b K e st) (fun _ K=>regK b K e st):=by
  intro b e st
  cases e with
  | normal=>exact ad3.bv5 (X:=fun st K=>K .normal st) (Y:=fun st _ K=>K .normal st) (E.behind b st) (fun st=>ad3.self .normal st)
  | exit id=>exact ad3.self _ st
  | ret=>exact ad3.self _ st
  | pan v=>exact ad3.self _ st
 induction c with
 | skip=>exact fun st=>by simp only [ag5,code];exact ad3.self .normal st
 | region id os d=>
  intro st
  simp only [ag5,code]
  cases d with
  | true=>exact (drawnT_comes (P:=P) (H:=H) hm f os os.size (Array.replicate os.size false) st).bind (regK (H.br f id)) (fun _=>regK (H.br f id)) (hreg _)
  | false=>
   have:=(bp9 (P:=P) (H:=H) hm inr f os os.toList st).bind (regK (H.br f id)) (fun _=>regK (H.br f id)) (hreg _)
   intro K o h
   obtain ⟨L,a1,a2,n0,a3⟩:=this K o h
   refine ⟨L,a1,a2,n0,fun n hn K' o' hf=>?_⟩
   have:=a3 n hn K' o' hf
   have e:=ops_kp (P:=P) (H:=H) (rec:=recn n) (inr:=inr) (f:=f) (all:=os) (K:=regK (H.br f id) K' .normal) (KP:=regK (H.br f id) K') (KP':=K') (fun v st=>rfl) os.toList st
   exact e.symm.trans this
 | seq x y ihx ihy=>
  intro st
  simp only [ag5,code]
  refine (ihx st).bind (fun K=>seqK (ag5 P H rec inr f y K) K) (fun n K=>seqK (code P H (recn n) n inr f y K) K) fun e st=>?_
  cases e with
  | normal=>exact ihy st
  | exit id=>exact ad3.self _ st
  | ret=>exact ad3.self _ st
  | pan v=>exact ad3.self _ st
 | cond o x y ihx ihy=>
  intro st
  simp only [ag5,code]
  cases (ev H st o).1 with
  | bool b=>
   cases b with
   | true=>exact ad3.bv5 _ ihx
   | false=>exact ad3.bv5 _ ihy
  | _=>exact ad3.none _
 | block id c ih=>
  intro st
  simp only [ag5,code]
  refine (ih st).bind (ay8 id) (fun _=>ay8 id) fun e st=>?_
  cases e with
  | exit i=>
   simp only [ay8]
   cases i==id with
   | true=>exact ad3.self .normal st
   | false=>exact ad3.self _ st
  | normal=>exact ad3.self _ st
  | ret=>exact ad3.self _ st
  | pan v=>exact ad3.self _ st
 | loop c ih=>
  intro st K o h
  simp only [ag5] at h
  obtain ⟨m0,hm0⟩:=ba8 h
  have key:∀(m:Nat) (st:St) (K:Cont) (o:Out),iter (ag5 P H rec inr f c) m K st=some o ->
    ∃L,Fine L K o/\(∀K' o',Fine L K' o'->∀j,m<=j->iter (ag5 P H rec inr f c) j K' st=some o')/\∃n0,∀n,n0<=n->∀K' o',Fine L K' o'->∀j,m<=j->iter (code P H (recn n) n inr f c) j K' st=some o':=by
   intro m
   induction m with
   | zero=>intro st K o h;simp [iter] at h
   | succ m ihm=>
    intro st K o h
    rw [iter] at h
    obtain ⟨L1,f1,h1,n1,h2⟩:=ih st _ o h
    obtain ⟨L,a1,a2,n0,a3⟩:=comb (I:={j:Nat // m<=j})
     (fun i K'=>(fun | .normal,st'=>iter (ag5 P H rec inr f c) i.1 K' st' | e,st'=>K' e st':Cont))
     (fun n i K'=>(fun | .normal,st'=>iter (code P H (recn n) n inr f c) i.1 K' st' | e,st'=>K' e st':Cont)) K o L1 (fun p hp=>by
      have hf:=f1 p hp
      obtain ⟨e,st'⟩:=p
      cases e with
      | normal=>
       obtain ⟨L,b1,b2,n0,b3⟩:=ihm st' K o hf
       exact ⟨L,b1,fun K' o' hf i=>b2 K' o' hf i.1 i.2,n0,fun n hn K' o' hf i=>b3 n hn K' o' hf i.1 i.2⟩
      | exit id=>exact ⟨[(.exit id,st')],(fun q hq=>by simp at hq;subst hq;exact hf),fun K' o' hf _=>hf (.exit id,st') (by simp),0,fun _ _ K' o' hf _=>hf (.exit id,st') (by simp)⟩
      | ret=>exact ⟨[(.ret,st')],(fun q hq=>by simp at hq;subst hq;exact hf),fun K' o' hf _=>hf (.ret,st') (by simp),0,fun _ _ K' o' hf _=>hf (.ret,st') (by simp)⟩
      | pan v=>exact ⟨[(.pan v,st')],(fun q hq=>by simp at hq;subst hq;exact hf),fun K' o' hf _=>hf (.pan v,st') (by simp),0,fun _ _ K' o' hf _=>hf (.pan v,st') (by simp)⟩)
    refine ⟨L,a1,fun K' o' hf j hj=>?_,n0+n1,fun n hn K' o' hf j hj=>?_⟩
    ·obtain ⟨j,rfl⟩:∃i,j=i+1:=⟨j-1,by omega⟩
     rw [iter]
     exact h1 _ _ fun p hp=>a2 K' o' hf ⟨j,by omega⟩ p hp
    ·obtain ⟨j,rfl⟩:∃i,j=i+1:=⟨j-1,by omega⟩
     rw [iter]
     exact h2 n (by omega) _ _ fun p hp=>a3 n (by omega) K' o' hf ⟨j,by omega⟩ p hp
  obtain ⟨L,a1,a2,n0,a3⟩:=key m0 st K o (hm0 m0 (Nat.le_refl _))
  refine ⟨L,a1,fun K' o' hf=>?_,n0+m0,fun n hn K' o' hf=>?_⟩
  ·simp only [ag5]
   exact bn4 m0 fun n hn=>a2 K' o' hf n hn
  ·simp only [code]
   exact a3 n (by omega) K' o' hf n (by omega)
 | exit id=>exact fun st=>by simp only [ag5,code];exact ad3.self _ st
 | ret=>exact fun st=>by simp only [ag5,code];exact ad3.self _ st
 | rangeFunc g ps _ cb _ _=>exact fun st=>by simp only [ag5,code];exact rangeV_comes hm inr f g ps.toList _ st
 | scope _ _=>exact fun st=>by simp only [ag5];exact ad3.none _
 | label _=>exact fun st=>by simp only [ag5];exact ad3.none _
 | goto _=>exact fun st=>by simp only [ag5];exact ad3.none _
 | refuse _=>exact fun st=>by simp only [ag5];exact ad3.none _
theorem loopL_of {rec:Rec}{inr:Bool}{f:FuncId}{c:Code}{K:Cont}{st:St}{o:Out}(h:ag5 P H rec inr f c (fun | .normal,st'=>bw9 (ag5 P H rec inr f c) K st' | e,st'=>K e st') st=some o):bw9 (ag5 P H rec inr f c) K st=some o:=by
 have hm:aF5 rec (fun _=>rec):=fun f args s o h=>⟨0,fun _ _=>h⟩
 obtain ⟨L,a1,a2,_⟩:=aA1 (P:=P) (H:=H) hm inr f c st _ o h
 have key:∀L:List (Ex×St),Fine L (fun | .normal,st'=>bw9 (ag5 P H rec inr f c) K st' | e,st'=>K e st') o->∃n0,∀n,n0<=n->Fine L (fun | .normal,st'=>iter (ag5 P H rec inr f c) n K st' | e,st'=>K e st') o:=by
  intro L
  induction L with
  | nil=>exact fun _=>⟨0,fun n _ p hp=>by cases hp⟩
  | cons p L ih=>
   intro hf
   obtain ⟨n0,h0⟩:=ih fun q hq=>hf q (List.mem_cons_of_mem _ hq)
   have hp:=hf p (by simp)
   obtain ⟨e,st'⟩:=p
   cases e with
   | normal=>
    obtain ⟨n1,h1⟩:=ba8 hp
    exact ⟨n0+n1,fun n hn q hq=>by
     rcases List.mem_cons.1 hq with rfl | hq
     ·exact h1 n (by omega)
     ·exact h0 n (by omega) q hq⟩
   | _=>exact ⟨n0,fun n hn q hq=>by
     rcases List.mem_cons.1 hq with rfl | hq
     ·exact hp
     ·exact h0 n hn q hq⟩
 obtain ⟨n0,hn⟩:=key L a1
 refine bn4 (n0+1) fun n hle=>?_
 obtain ⟨n,rfl⟩:∃i,n=i+1:=⟨n-1,by omega⟩
 rw [iter]
 exact a2 _ _ (hn n (by omega))
end
end Go.Proofs.YtnpjififnhjbbaaDoor.E
namespace Go.Proofs.YtnpjififnhjbbaaDoor.E
open Go
section
variable (P:Program) (H:ae2) (G:FuncId->Option (List V->List O->Option Out))
noncomputable def run (f:FuncId)(args:List V)(s:List O):R:=Lim fun n=>call P H G n f args s
noncomputable def dcallT (rec:Rec):Rec:=fun f args s=>match P.funcs[f]? with
 | some fn=>match fn.body with
  | some c=>ag5 P H rec false f c (aA9 P H f fn) (start (H.sites f) args fn.ntmps s)
  | none=>none
 | none=>none
noncomputable def aD3 (rec:Rec)(m:Option V):Rec:=fun f args s=>match recB P f with
 | some (fn,id,o,r,rest)=>(goD H f o.dst (recV m,.no) (start (H.sites f) args fn.ntmps s)).bind fun st=>(opsR P H f r st).bind fun st=>(behind (H.br f id) st).bind (ag5 P H rec false f rest (aA9 P H f fn))
 | none=>dcallT P H rec f args s
noncomputable def bx7 (rec:Rec)(f:FuncId)(fn:Func):Cont:=leave P H (aD3 P H rec) f fn
end
section
variable {P:Program} {H:ae2} {G:FuncId->Option (List V->List O->Option Out)}
theorem ba4 :aF5 (run P H G) (fun n=>call P H G n):=fun _ _ _ _ h=>ba8 h
theorem dcall_meets :aF5 (dcallT P H (run P H G)) (fun n=>bz6 P H (call P H G n) n):=by
 intro f args s o h
 unfold dcallT at h
 cases hf:P.funcs[f]? with
 | none=>rw [hf] at h;cases h
 | some fn=>
  rw [hf] at h
  simp only at h
  cases hb:fn.body with
  | none=>rw [hb] at h;cases h
  | some c=>
   rw [hb] at h
   obtain ⟨L,a1,a2,n0,a3⟩:=aA1 (P:=P) (H:=H) (ba4 (G:=G)) false f c (start (H.sites f) args fn.ntmps s) _ o h
   refine ⟨n0,fun n hn=>?_⟩
   show bz6 P H (call P H G n) n f args s=some o
   unfold bz6
   rw [hf]
   simp only [hb]
   exact a3 n hn _ _ a1
theorem dcallM_meets (m:Option V):aF5 (aD3 P H (run P H G) m) (fun n=>aE5 P H (call P H G n) n m):=by
 intro f args s o h
 unfold aD3 at h
 cases hr:recB P f with
 | none=>
  rw [hr] at h
  obtain ⟨n0,hn⟩:=dcall_meets (P:=P) (H:=H) (G:=G) f args s o h
  refine ⟨n0,fun n hle=>?_⟩
  show aE5 P H (call P H G n) n m f args s=some o
  unfold aE5
  rw [hr]
  exact hn n hle
 | some q=>
  obtain ⟨fn,id,x,r,rest⟩:=q
  rw [hr] at h
  simp only at h
  obtain ⟨st1,g1,hA⟩:=Option.bind_eq_some_iff.1 h
  obtain ⟨st2,g2,hB⟩:=Option.bind_eq_some_iff.1 hA
  obtain ⟨st3,g3,hC⟩:=Option.bind_eq_some_iff.1 hB
  obtain ⟨L,a1,a2,n0,a3⟩:=aA1 (P:=P) (H:=H) (ba4 (G:=G)) false f rest st3 _ o hC
  refine ⟨n0,fun n hn=>?_⟩
  show aE5 P H (call P H G n) n m f args s=some o
  unfold aE5
  rw [hr]
  simp only [g1,Option.bind_some,g2,g3]
  exact a3 n hn _ _ a1
theorem az9 {D:Option V->Rec}{Dn:Nat->Option V->Rec}(hD:∀m,aF5 (D m) (fun n=>Dn n m))(K:Option V->St->R)(o:Out):∀(ds:List (FuncId×List V)) (m:Option V) (st:St),drain P H D ds m st K=some o->∃n0,∀n,n0<=n->drain P H (Dn n) ds m st K=some o
 | [],m,st,h=>⟨0,fun n _=>h⟩
 | d::ds,m,st,h=>by
  rw [drain] at h
  cases hmk:aR8 d with
  | true=>
   rw [hmk] at h
   obtain ⟨n1,h2⟩:=az9 hD K o ds m _ h
   exact ⟨n1,fun n hn=>by rw [drain,hmk];exact h2 n hn⟩
  | false=>
  rw [hmk] at h
  simp only [cond_false] at h
  have q:=aa2 h
  clear h
  obtain ⟨h1,h⟩:=q
  obtain ⟨out,ho,h⟩:=Option.bind_eq_some_iff.1 h
  obtain ⟨n0,h0⟩:=hD m _ _ _ _ ho
  cases out with
  | pan v s=>cases h
  | ret vs s=>
   obtain ⟨n1,h2⟩:=az9 hD K o ds _ _ h
   refine ⟨n0+n1,fun n hn=>?_⟩
   rw [drain,hmk]
   simp only [cond_false,ck,h1,cond_true]
   rw [show Dn n m d.1 d.2 st.s=_ from h0 n (by omega)]
   exact h2 n (by omega)
theorem leave_meets {D:Option V->Rec}{Dn:Nat->Option V->Rec}(hD:∀m,aF5 (D m) (fun n=>Dn n m))(f:FuncId)(fn:Func)(e:Ex)(st:St)(o:Out)(h:leave P H D f fn e st=some o):∃n0,∀n,n0<=n->leave P H (Dn n) f fn e st=some o:=by
 unfold leave at h ⊢
 cases e with
 | normal=>exact az9 hD _ o _ _ _ h
 | ret=>exact az9 hD _ o _ _ _ h
 | pan v=>exact az9 hD _ o _ _ _ h
 | exit id=>cases h
theorem run_of {f:FuncId}{fn:Func}{c:Code}(hG:G f=none)(hf:P.funcs[f]? =some fn)(hb:fn.body=some c){args:List V}{s:List O}{o:Out}
  (h:ag5 P H (run P H G) false f c (bx7 P H (run P H G) f fn) (start (H.sites f) args fn.ntmps s)=some o):run P H G f args s=some o:=by
 obtain ⟨L,a1,a2,n0,a3⟩:=aA1 (P:=P) (H:=H) (ba4 (G:=G)) false f c (start (H.sites f) args fn.ntmps s) _ o h
 have key:∀L:List (Ex×St),Fine L (bx7 P H (run P H G) f fn) o->∃n0,∀n,n0<=n->Fine L (leave P H (aE5 P H (call P H G n) n) f fn) o:=by
  intro L
  induction L with
  | nil=>exact fun _=>⟨0,fun n _ p hp=>by cases hp⟩
  | cons p L ih=>
   intro hfine
   obtain ⟨n0,h0⟩:=ih fun q hq=>hfine q (List.mem_cons_of_mem _ hq)
   obtain ⟨n1,h1⟩:=leave_meets (P:=P) (H:=H) (Dn:=fun n=>aE5 P H (call P H G n) n) (dcallM_meets (G:=G)) f fn p.1 p.2 o (hfine p (by simp))
   exact ⟨n0+n1,fun n hn q hq=>by
    rcases List.mem_cons.1 hq with rfl | hq
    ·exact h1 n (by omega)
    ·exact h0 n (by omega) q hq⟩
 obtain ⟨n1,h1⟩:=key L a1
 refine bn4 (n0+n1+1) fun n hn=>?_
 obtain ⟨n,rfl⟩:∃i,n=i+1:=⟨n-1,by omega⟩
 rw [call,hG]
 simp only [hf,hb]
 exact a3 n (by omega) _ _ (h1 n (by omega))
theorem bt9 {f:FuncId}{g:List V->List O->Option Out}(hG:G f=some g){args:List V}{s:List O}{o:Out}(h:g args s=some o):run P H G f args s=some o:=by
 refine bn4 1 fun n hn=>?_
 obtain ⟨n,rfl⟩:∃i,n=i+1:=⟨n-1,by omega⟩
 rw [call,hG]
 exact h
theorem run_rec (hH:HOk P H)(hG:∀f g,G f=some g->aT6 P H f g)(hGs:∀f g,G f=some g->f<P.funcs.size):aH8 P H (run P H G):=⟨fun f hf args s o h=>by
 obtain ⟨n,hn⟩:=ba8 h
 exact (bA1 hH G hG hGs n).fn f hf args s o (hn n (Nat.le_refl _)),fun id args s o h=>by
 obtain ⟨n,hn⟩:=ba8 h
 exact (bA1 hH G hG hGs n).yld id args s o (hn n (Nat.le_refl _))⟩
end
end Go.Proofs.YtnpjififnhjbbaaDoor.E
namespace Go.Proofs.YtnpjififnhjbbaaDoor.E
open Go
def retK (vs:List V)(s:List O):R:=ck (vs.all aG0) (some (.ret vs s))
section
variable (P:Program) (H:ae2)
def resK (f:FuncId)(st:St):List ResultVar->(List V->R)->R
 | [],K=>K []
 | .tmp t::r,K=>resK f st r fun vs=>K ((st.t.getD t (.undef,.no)).1::vs)
 | .cell a t::r,K=>aY0 P (ba9 H) f 0 t (st.t.getD a (.undef,.no)).1 st fun q=>resK f st r fun vs=>K (q.1.1::vs)
def aC7 (f:FuncId)(fn:Func):Cont:=fun
 | .normal,st | .ret,st=>ck st.d.isEmpty<|ck (!(H.own f).headD false)<|resK P H f st fn.results.toList fun vs=>retK vs st.s
 | .pan v,st=>ck (st.d.isEmpty&&aG0 v) (some (.pan v st.s))
 | _,_=>none
noncomputable def aF0 (rec:Rec)(f:FuncId)(fn:Func):Cont:=fun
 | .normal,st | .ret,st=>drain P H (aD3 P H rec) st.d none st (fun m st=>aC7 P H f fn (exOf m) st)
 | .pan v,st=>drain P H (aD3 P H rec) st.d (some v) st (fun m st=>aC7 P H f fn (exOf m) st)
 | _,_=>none
noncomputable def atT (rec:Rec)(inr:Bool)(f:FuncId):List Nat->Code->Cont->Code×Cont
 | 0::p,.seq x y,K=>atT rec inr f p x (seqK (ag5 P H rec inr f y K) K)
 | 1::p,.seq _ y,K=>atT rec inr f p y K
 | 0::p,.cond _ x _,K=>atT rec inr f p x K
 | 1::p,.cond _ _ y,K=>atT rec inr f p y K
 | 0::p,.block id c,K=>atT rec inr f p c (ay8 id K)
 | 0::p,.loop c,K=>atT rec inr f p c (fun | .normal,st'=>bw9 (ag5 P H rec inr f c) K st' | e,st'=>K e st')
 | [],c,K=>(c,K)
 | _,_,K=>(.skip,K)
noncomputable def exitAt (rec:Rec)(f:FuncId)(p:List Nat)(st:St):R:=match P.funcs[f]? with
 | some fn=>match fn.body with
  | some c=>(atT P H rec false f p c (aF0 P H rec f fn)).2 .normal st
  | none=>none
 | none=>none
def bk1 :Code->Bool | .loop _=>true | _=>false
end
section
variable {P:Program} {H:ae2} {G:FuncId->Option (List V->List O->Option Out)}
theorem resK_s (f:FuncId)(st:St):∀(l:List ResultVar) (K:List V->R) (o:Out),resK P H f st l K=some o->∃vs,resV P H f st l=some vs/\K (vs.map (·.1))=some o
 | [],K,o,h=>⟨[],rfl,h⟩
 | .tmp t::r,K,o,h=>by
  simp only [resK] at h
  obtain ⟨vs,h1,h2⟩:=resK_s f st r _ o h
  exact ⟨st.t.getD t (.undef,.no)::vs,by simp only [resV,h1,Option.map_some],by simp only [List.map_cons];exact h2⟩
 | .cell a t::r,K,o,h=>by
  simp only [resK] at h
  obtain ⟨q,e1,e2⟩:=loadK_s (P:=P) (H:=ba9 H) f 0 t _ st _ o h
  rw [e2] at h
  obtain ⟨vs,h1,h2⟩:=resK_s f st r _ o h
  exact ⟨q.1::vs,by simp only [resV,e1,Option.bind_some,h1,Option.map_some],by simp only [List.map_cons];exact h2⟩
theorem aV6 {f:FuncId}{fn:Func}{e:Ex}{st:St}{o:Out}(h:aC7 P H f fn e st=some o):aA9 P H f fn e st=some o:=by
 have key:(ck st.d.isEmpty<|ck (!(H.own f).headD false)<|resK P H f st fn.results.toList fun vs=>retK vs st.s)=some o->(ck st.d.isEmpty<|(resV P H f st fn.results.toList).bind fun vs=>
   ck (vs.all (fun v=>aG0 v.1)&&(!((H.own f).headD false&&vs.length==1)||vs.all (ownOk st.l))) (some (.ret (vs.map (·.1)) st.s)))=some o:=by
  intro h
  obtain ⟨h1,h⟩:=aa2 h
  obtain ⟨h2,h⟩:=aa2 h
  obtain ⟨vs,h3,h4⟩:=resK_s f st _ _ o h
  unfold retK at h4
  obtain ⟨h5,h6⟩:=aa2 h4
  have h2:(H.own f).headD false=false:=by simpa using h2
  have h5':vs.all (fun v=>aG0 v.1)=true:=by rw [List.all_map] at h5;exact h5
  simp only [ck,h1,cond_true,h3,Option.bind_some,h5',h2,Bool.false_and,Bool.not_false,Bool.true_or,Bool.and_self]
  exact h6
 cases e with
 | normal=>exact key h
 | ret=>exact key h
 | pan v=>exact h
 | exit id=>cases h
theorem aP7 {D:Option V->Rec}{K K':Option V->St->R}{o:Out}(hK:∀m st,K m st=some o->K' m st=some o):∀(ds:List (FuncId×List V)) (m:Option V) (st:St),drain P H D ds m st K=some o->drain P H D ds m st K'=some o
 | [],m,st,h=>hK _ _ h
 | d::ds,m,st,h=>by
  rw [drain] at h ⊢
  cases hmk:aR8 d with
  | true=>rw [hmk] at h;exact aP7 hK ds m _ h
  | false=>
  rw [hmk] at h
  simp only [cond_false] at h ⊢
  have q:=aa2 h
  clear h
  obtain ⟨h1,h⟩:=q
  obtain ⟨out,ho,h⟩:=Option.bind_eq_some_iff.1 h
  simp only [ck,h1,cond_true,ho,Option.bind_some]
  cases out with
  | pan v s=>cases h
  | ret vs s=>exact aP7 hK ds _ _ h
theorem leaveTK_le {rec:Rec}{f:FuncId}{fn:Func}{e:Ex}{st:St}{o:Out}(h:aF0 P H rec f fn e st=some o):bx7 P H rec f fn e st=some o:=by
 unfold bx7 leave
 unfold aF0 at h
 cases e with
 | normal=>exact aP7 (fun m st h=>aV6 h) _ _ _ h
 | ret=>exact aP7 (fun m st h=>aV6 h) _ _ _ h
 | pan v=>exact aP7 (fun m st h=>aV6 h) _ _ _ h
 | exit id=>cases h
theorem bm5 {rec:Rec}{inr:Bool}{f:FuncId}{c:Code}{K K':Cont}{st:St}{o:Out}(hK:∀e st,K e st=some o->K' e st=some o)(h:ag5 P H rec inr f c K st=some o):ag5 P H rec inr f c K' st=some o:=by
 have hm:aF5 rec (fun _=>rec):=fun f args s o h=>⟨0,fun _ _=>h⟩
 obtain ⟨L,a1,a2,_⟩:=aA1 (P:=P) (H:=H) hm inr f c st K o h
 exact a2 K' o fun p hp=>hK _ _ (a1 p hp)
end
def mkT (n:Nat)(l:List (Nat×V×Tag)):List (V×Tag):=l.foldl (fun t p=>t.set p.1 p.2) (List.replicate n (.undef,.no))
def mkA (n:Nat)(l:List (Nat×List (V×Tag))):List (List (V×Tag)):=l.foldl (fun t p=>t.set p.1 p.2) (List.replicate n [])
def retR (vs:List V)(s:List O):R:=some (.ret vs s)
def panK (v:V)(s:List O):R:=ck (aG0 v) (some (.pan v s))
def callPn (n:Nat)(x:R)(K:V->R)(KP:V->R):R:=bg6 x (fun vs=>aG1 n vs fun l=>K (one l)) KP
def callSn (n:Nat)(x:R)(K:V->List O->R)(KP:V->List O->R):R:=aU1 x (fun vs s=>aG1 n vs fun l=>K (one l) s) KP
def callP1 :=callPn 1
def as9 :=callSn 0
def callS1 :=callSn 1
def callS2 :=callSn 2
def apK (es xs:List V)(b:Nat)(K:R):R:=ck (Nat.ble ((es.length+xs.length)*b) 140737488355328&&Nat.ble (es.length+xs.length) 140737488355328) K
def cmpS (a b:ByteArray):Int:=if Op.bytesLess a.toList b.toList then -1 else if a.toList=b.toList then 0 else 1
def lk {α:Type}(d:α):List (Nat×α)->Nat->α
 | [],_=>d
 | (k,v)::r,n=>bif Nat.beq k n then v else lk d r n
def lk2 {α:Type}(d:α)(l:List (Nat×List (Nat×α)))(f i:Nat):α:=lk d (lk [] l f) i
def lkM (l:List (Nat×String×Nat))(t:Nat)(m:String):Option Nat:=match l with
 | []=>none
 | (k,n,g)::r=>bif Nat.beq k t&&decide (n=m) then some g else lkM r t m
theorem lk_mem {α:Type}{d:α}:∀{l:List (Nat×α)} {n:Nat} {v:α},lk d l n=v->v≠d->(n,v)∈l
 | [],n,v,h,hne=>absurd h.symm hne
 | (k,u)::r,n,v,h,hne=>by
  simp only [lk] at h
  cases hb:Nat.beq k n with
  | true=>rw [hb] at h;simp only [cond_true] at h;have hb:=Nat.eq_of_beq_eq_true hb;subst hb;subst h;exact List.mem_cons_self
  | false=>rw [hb] at h;exact List.mem_cons_of_mem _ (lk_mem h hne)
theorem callFunc_enter {P:Program}{g:FuncId}(h:(match P.funcs[g]? with | some fn=>fn.body.isSome&&!(fn.name== "runtime.NumGoroutine") | none=>false)=true)(args:Array Value)(w:World):(callFunc g args).run P w=.ok (.enter g args) w:=by
 unfold callFunc
 refine (ab3 (w1:=w) (r:=P) rfl).trans ?_
 cases hf:P.funcs[g]? with
 | none=>rw [hf] at h;cases h
 | some fn=>
  rw [hf] at h
  simp only [Bool.and_eq_true,Bool.not_eq_true'] at h
  obtain ⟨h1,h2⟩:=h
  simp only [h2,Bool.false_eq_true,if_false]
  cases hb:fn.body with
  | none=>rw [hb] at h1;cases h1
  | some c=>simp only [Option.isNone_some,Bool.false_eq_true,if_false];rfl
theorem ok_of {P:Program}{l:List (Nat×Bool)}(h:(l.all fun p=>match P.funcs[p.1]? with | some fn=>fn.body.isSome&&!(fn.name== "runtime.NumGoroutine") | none=>false)=true)(g:FuncId)(hg:lk false l g=true)(args:Array Value)(w:World):(callFunc g args).run P w=.ok (.enter g args) w:=
 callFunc_enter (List.all_eq_true.1 h _ (lk_mem hg (by simp))) args w
end Go.Proofs.YtnpjififnhjbbaaDoor.E
