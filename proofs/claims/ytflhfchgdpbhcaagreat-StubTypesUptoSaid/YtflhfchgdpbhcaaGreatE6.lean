/- It is proved that the evaluation without fuel is worth as much as the one with fuel, and the words in which a function's evaluation is printed. No condition beyond the lemmas' own. -/
import Derived.Test.YtflhfchgdpbhcaaGreatEXG
namespace Go.Proofs.YtflhfchgdpbhcaaGreat.E
open Go
open Classical in
noncomputable def Lim (F:Nat->R):R:=if h:∃o:Out,∃n0,∀n,n0<=n->F n=some o then some h.choose else none
theorem bh0 {F:Nat->R}{o:Out}(h:Lim F=some o):∃n0,∀n,n0<=n->F n=some o:=by
 unfold Lim at h
 split at h
 ·rename_i hh
  injection h with h
  rw [←h]
  exact hh.choose_spec
 ·cases h
theorem bs9 {F:Nat->R}{o:Out}(n0:Nat)(h:∀n,n0<=n->F n=some o):Lim F=some o:=by
 have hh:∃o:Out,∃n0,∀n,n0<=n->F n=some o:=⟨o,n0,h⟩
 unfold Lim
 rw [dif_pos hh]
 obtain ⟨n1,h1⟩:=hh.choose_spec
 have a:=h1 (n0+n1) (by omega)
 rw [h (n0+n1) (by omega)] at a
 exact a.symm
noncomputable def bB1 (b:Cont->St->R)(K:Cont)(st:St):R:=Lim fun n=>iter b n K st
def bp3 (x:R)(K:List V->R)(KP:V->R):R:=match x with | some (.ret vs _)=>ck (aa0 vs) (K vs) | some (.pan v _)=>ck (ad1 v) (KP v) | none=>none
def ba9 (x:R)(K:List V->List O->R)(KP:V->List O->R):R:=match x with | some (.ret vs s)=>K vs s | some (.pan v s)=>KP v s | none=>none
def aP0 :Nat->List V->(List V->R)->R
 | 0,vs,K=>asNil vs (K [])
 | n+1,vs,K=>ba0 vs fun v r=>aP0 n r fun r=>K (v::r)
theorem openN_s {n:Nat}:∀{vs:List V} {K:List V->R} {o:Out},aP0 n vs K=some o->vs.length=n/\∀K',aP0 n vs K'=K' vs:=by
 induction n with
 | zero=>
  intro vs K o h
  cases vs with
  | nil=>exact ⟨rfl,fun _=>rfl⟩
  | cons _ _=>simp [aP0,asNil] at h
 | succ n ih=>
  intro vs K o h
  cases vs with
  | nil=>simp [aP0,ba0] at h
  | cons v r=>
   simp only [aP0,ba0] at h
   obtain ⟨h1,h2⟩:=ih h
   exact ⟨by simp [h1],fun K'=>by simp only [aP0,ba0];exact h2 _⟩
section
variable (P:Program) (H:ae5)
def nres (g:FuncId):Nat:=match P.funcs[g]? with | some fn=>fn.results.size | none=>0
def aA9 (f:FuncId)(dst:Option Nat)(v:V×Tag)(K:St->R)(st:St):R:=
 aV5 (match dst with | some d=>H.shape f d | none=>.any) v.1 fun v'=>K (st.put dst (v',v.2))
def aB8 (rec:Rec)(g:FuncId)(args:List V)(s:List O)(K:V->List O->R)(KP:V->List O->R):R:=
 match H.ext g with
 | some e=>ck (args.all am0)<|(e args).bind fun v=>K v s
 | none=>ck (H.ok g)<|ck (args.all am0)<|bif H.pure g then ck (aa0 args)<|bp3 (rec g args []) (fun vs=>aP0 (nres P g) vs fun l=>K (one l) s) (fun v=>KP v s)
  else ba9 (rec g args s) (fun vs s'=>aP0 (nres P g) vs fun l=>K (one l) s') KP
def aM4 (rec:Rec)(x:V)(args:List V)(s:List O)(K:V->List O->R)(KP:V->List O->R):R:=
 match x with | .func (.func g) first cap=>ck (!(H.own g).headD false) (aB8 P H rec g (first++args++cap) s K KP) | .yld id=>ck (args.all am0) (ba9 (rec (P.funcs.size+id) args s) (fun vs s'=>K (one vs) s') (fun _ _=>none)) | _=>none
def bp4 (rec:Rec)(x:V)(m:String)(args:List V)(s:List O)(K:V->List O->R)(KP:V->List O->R):R:=
 match x with | .iface t v=>(match H.meth t m with | some g=>ck (!(H.own g).headD false) (aB8 P H rec g (v::args) s K KP) | none=>none) | _=>none
def bk2 (rec:Rec)(f:FuncId)(c:Call)(dst:Option Nat)(st:St)(K:St->R)(KP:V->List O->R):R:=
 match c.callee with
 | .builtin _=>none
 | .value (.func g)=>aB8 P H rec g (evs H st c.args.toList) st.s (fun v s=>bif (H.own g).headD false&&(H.ext g).isNone&&nres P g==1 then (let r:=fresh v {st with s:=s};aA9 H f dst r.1 K r.2) else aA9 H f dst (v,.no) K {st with s:=s}) KP
 | .value fo=>aM4 P H rec (ev H st fo).1 (evs H st c.args.toList) st.s (fun v s=>aA9 H f dst (v,.no) K {st with s:=s}) KP
 | .invoke r m=>bp4 P H rec (ev H st r).1 m (evs H st c.args.toList) st.s (fun v s=>aA9 H f dst (v,.no) K {st with s:=s}) KP
def stepT (rec:Rec)(inr:Bool)(f:FuncId)(o:Oper)(K:St->R)(KP:Cont)(st:St):R:=
 match o.op with
 | .call c=>match c.callee with
  | .builtin _=>opKG P H f (o.dst.getD 0) o.op st fun r=>aA9 H f o.dst r.1 K r.2
  | _=>bk2 P H rec f c o.dst st K (fun v s=>KP (.pan v) {st with s:=s})
 | .defer c=>ck (!inr&&match c.callee with | .value _=>true | _=>false)<|(ag3 H st c).bind fun g=>ck (H.ok g.1&&g.2.all am0)<|K ({st with d:=g::st.d}.put o.dst (.undef,.no))
 | .panic x=>match (ev H st x).1 with | .iface t v=>KP (.pan (.iface t v)) st | _=>none
 | op=>ck (az8 H f st op)<|opKG P H f (o.dst.getD 0) op st fun r=>aA9 H f o.dst r.1 K r.2
def St.refine (st:St)(d:Nat)(b:Bool):St:={st with t:=st.t.set d (.bool b,(st.t.getD d (.undef,.no)).2)}
def opsT (rec:Rec)(inr:Bool)(f:FuncId)(all:Array Oper)(K:St->R)(KP:Cont):List Oper->St->R
 | [],st=>K st
 | o::r,st=>match o.guard with
  | none=>stepT P H rec inr f o (opsT rec inr f all K KP r) KP st
  | some (j,want)=>match (all[j]?).bind (·.dst) with
   | none=>none
   | some d=>match (st.t.getD d (.undef,.no)).1 with
    | .bool b=>bif want then (bif b then stepT P H rec inr f o (opsT rec inr f all K KP r) KP (st.refine d true) else opsT rec inr f all K KP r ((st.refine d false).put o.dst (.tup [],.no)))
     else (bif b then opsT rec inr f all K KP r ((st.refine d true).put o.dst (.tup [],.no)) else stepT P H rec inr f o (opsT rec inr f all K KP r) KP (st.refine d false))
    | .tup []=>opsT rec inr f all K KP r (st.put o.dst (.tup [],.no))
    | _=>none
def aF9 (rec:Rec)(f:FuncId)(o:Oper)(st:St)(K:St->R):R:=
 match o.op with
 | .defer _ | .panic _=>none
 | _=>stepT P H rec true f o K (fun _ _=>none) st
def opDT (rec:Rec)(f:FuncId)(all:Array Oper)(i:Nat)(st:St)(K:St->R):R:=
 match all[i]? with
 | none=>none
 | some o=>match o.guard with
  | none=>aF9 P H rec f o st K
  | some (j,want)=>match (all[j]?).bind (·.dst) with
   | none=>none
   | some d=>match (st.t.getD d (.undef,.no)).1 with
    | .bool b=>bif want then (bif b then aF9 P H rec f o (st.refine d true) K else K ((st.refine d false).put o.dst (.tup [],.no))) else (bif b then K ((st.refine d true).put o.dst (.tup [],.no)) else aF9 P H rec f o (st.refine d false) K)
    | .tup []=>K (st.put o.dst (.tup [],.no))
    | _=>none
def av2 (rec:Rec)(f:FuncId)(os:Array Oper)(K:St->R):Nat->Array Bool->St->R
 | 0,S,st=>ck (Region.ready .any os S).isEmpty (K st)
 | n+1,S,st=>match Region.ready .any os S with
  | []=>K st
  | l=>match l.find? (free P H f os S) with
   | some p=>opDT P H rec f os p st (av2 rec f os K n (S.setIfInBounds p true))
   | none=>aE2 (l.map fun i=>opDT P H rec f os i st (av2 rec f os K n (S.setIfInBounds i true)))
def regK (b:Bhd)(K:Cont):Cont:=fun
 | .normal,st=>(behind b st).bind (K .normal)
 | e,st=>K e st
noncomputable def af9 (rec:Rec)(inr:Bool)(f:FuncId):Code->Cont->St->R
 | .skip,K,st=>K .normal st
 | .region id os d,K,st=>
  bif d then av2 P H rec f os (regK (H.br f id) K .normal) os.size (Array.replicate os.size false) st
  else opsT P H rec inr f os (regK (H.br f id) K .normal) (regK (H.br f id) K) os.toList st
 | .seq x y,K,st=>af9 rec inr f x (seqK (af9 rec inr f y K) K) st
 | .cond c x y,K,st=>match (ev H st c).1 with | .bool b=>bif b then (branch H f c true st).bind (af9 rec inr f x K) else (branch H f c false st).bind (af9 rec inr f y K) | _=>none
 | .block id c,K,st=>af9 rec inr f c (aB9 id K) st
 | .loop c,K,st=>bB1 (af9 rec inr f c) K st
 | .exit id,K,st=>K (.exit id) st
 | .ret,K,st=>K .ret st
 | .rangeFunc g ps _ cb,K,st=>aB2 P H rec inr f g ps.toList (aH6 cb) K st
 | _,_,_=>none
end
section
variable {P:Program} {H:ae5}
theorem aG3 {st:St}{d:Nat}{b:Bool}(h:(st.t.getD d (.undef,.no)).1=.bool b):st.refine d b=st:=by
 unfold St.refine
 have hlt:d<st.t.length:=by
  rcases Nat.lt_or_ge d st.t.length with q | q
  ·exact q
  ·rw [List.getD_eq_getElem?_getD,List.getElem?_eq_none q] at h;cases h
 have:st.t.set d (.bool b,(st.t.getD d (.undef,.no)).2)=st.t:=by
  apply List.ext_getElem?
  intro j
  rw [List.getElem?_set]
  split
  ·rename_i e
   subst e
   rw [List.getElem?_eq_getElem hlt]
   rw [List.getD_eq_getElem?_getD,List.getElem?_eq_getElem hlt] at h ⊢
   simp only [Option.getD_some] at h ⊢
   rw [←h]
  ·rfl
 rw [this]
def aM5 (rec:Rec)(recn:Nat->Rec):Prop:=∀f args s o,rec f args s=some o->∃n0,∀n,n0<=n->recn n f args s=some o
theorem au6 (f:FuncId)(dst:Option Nat)(v:V×Tag)(K:St->R)(st:St):aA9 H f dst v K st=goOn H f dst v K st:=by
 unfold aA9 goOn
 rw [openS_eq]
 rfl
theorem aR6 {f:FuncId}{dst:Option Nat}{v:V×Tag}{K:St->R}{st:St}{o:Out}(h:goOn H f dst v K st=some o):∃st',goD H f dst v st=some st'/\K st'=some o/\∀K':St->R,goOn H f dst v K' st=K' st':=by
 unfold goOn at h
 obtain ⟨v',h1,h2⟩:=Option.bind_eq_some_iff.1 h
 exact ⟨_,by unfold goD;rw [h1];rfl,h2,fun K'=>by unfold goOn;rw [h1];rfl⟩
theorem callG_out {rec:Rec}{recn:Nat->Rec}(hm:aM5 rec recn)(g:FuncId)(args:List V)(s:List O)(K:V->List O->R)(KP:V->List O->R)(o:Out)(h:aB8 P H rec g args s K KP=some o):
  (∃v s',K v s'=some o/\(∀K' KP',aB8 P H rec g args s K' KP'=K' v s') /\
   ((∃e,H.ext g=some e/\args.all am0=true/\e args=some v/\s'=s) ∨
    (H.ext g=none/\H.ok g=true/\args.all am0=true/\∃vs sr n0,v=one vs/\vs.length=nres P g /\
     ((H.pure g=true/\aa0 args=true/\aa0 vs=true/\s'=s/\∀n,n0<=n->recn n g args []=some (.ret vs sr))∨(H.pure g=false/\s'=sr/\∀n,n0<=n->recn n g args s=some (.ret vs sr)))))) ∨
  (∃v s',KP v s'=some o/\(∀K' KP',aB8 P H rec g args s K' KP'=KP' v s')/\H.ext g=none/\H.ok g=true/\args.all am0=true/\∃sr n0,
     ((H.pure g=true/\aa0 args=true/\ad1 v=true/\s'=s/\∀n,n0<=n->recn n g args []=some (.pan v sr))∨(H.pure g=false/\s'=sr/\∀n,n0<=n->recn n g args s=some (.pan v sr)))):=by
 unfold aB8 at h
 cases he:H.ext g with
 | some e=>
  rw [he] at h
  simp only at h
  obtain ⟨h1,h⟩:=aa1 h
  obtain ⟨v,hv,h⟩:=Option.bind_eq_some_iff.1 h
  exact .inl ⟨v,s,h,fun K' KP'=>by unfold aB8;rw [he];simp only [ck,h1,cond_true,hv,Option.bind_some],.inl ⟨e,rfl,h1,hv,rfl⟩⟩
 | none=>
  rw [he] at h
  simp only at h
  obtain ⟨h1,h⟩:=aa1 h
  obtain ⟨h2,h⟩:=aa1 h
  cases hp:H.pure g with
  | true=>
   rw [hp] at h
   simp only [cond_true] at h
   obtain ⟨h3,h⟩:=aa1 h
   cases hr:rec g args [] with
   | none=>rw [hr] at h;cases h
   | some out=>
    obtain ⟨n0,hn⟩:=hm g args [] out hr
    rw [hr] at h
    cases out with
    | ret vs sr=>
     simp only [bp3] at h
     obtain ⟨h4,h⟩:=aa1 h
     obtain ⟨h5,h6⟩:=openN_s h
     rw [h6] at h
     exact .inl ⟨one vs,s,h,fun K' KP'=>by unfold aB8;rw [he];simp only [ck,h1,h2,cond_true,hp,h3,hr,bp3,h4,h6],.inr ⟨rfl,h1,h2,vs,sr,n0,rfl,h5,.inl ⟨rfl,h3,h4,rfl,hn⟩⟩⟩
    | pan v sr=>
     simp only [bp3] at h
     obtain ⟨h4,h⟩:=aa1 h
     exact .inr ⟨v,s,h,fun K' KP'=>by unfold aB8;rw [he];simp only [ck,h1,h2,cond_true,hp,h3,hr,bp3,h4],rfl,h1,h2,sr,n0,.inl ⟨rfl,h3,h4,rfl,hn⟩⟩
  | false=>
   rw [hp] at h
   simp only [cond_false] at h
   cases hr:rec g args s with
   | none=>rw [hr] at h;cases h
   | some out=>
    obtain ⟨n0,hn⟩:=hm g args s out hr
    rw [hr] at h
    cases out with
    | ret vs sr=>
     simp only [ba9] at h
     obtain ⟨h5,h6⟩:=openN_s h
     rw [h6] at h
     exact .inl ⟨one vs,sr,h,fun K' KP'=>by unfold aB8;rw [he];simp only [ck,h1,h2,cond_true,hp,cond_false,hr,ba9,h6],.inr ⟨rfl,h1,h2,vs,sr,n0,rfl,h5,.inr ⟨rfl,rfl,hn⟩⟩⟩
    | pan v sr=>
     simp only [ba9] at h
     exact .inr ⟨v,sr,h,fun K' KP'=>by unfold aB8;rw [he];simp only [ck,h1,h2,cond_true,hp,cond_false,hr,ba9],rfl,h1,h2,sr,n0,.inr ⟨rfl,rfl,hn⟩⟩
theorem bf2 {rec':Rec}{f g:FuncId}{args:List V}{dst:Option Nat}{st:St}(hok:args.all am0=true)(K:St->R)(KP:Cont):
  (∀vs sr,H.pure g=true->aa0 args=true->aa0 vs=true->rec' g args []=some (.ret vs sr)->aD9 H rec' f g args dst st K KP=(bif (H.own g).headD false&&vs.length==1 then (let r:=fresh (one vs) st;goOn H f dst r.1 K r.2) else goOn H f dst (one vs,.no) K st)) /\
  (∀vs sr,H.pure g=false->rec' g args st.s=some (.ret vs sr)->aD9 H rec' f g args dst st K KP=(bif (H.own g).headD false&&vs.length==1 then (let r:=fresh (one vs) {st with s:=sr};goOn H f dst r.1 K r.2) else goOn H f dst (one vs,.no) K {st with s:=sr})) /\
  (∀v sr,H.pure g=true->aa0 args=true->ad1 v=true->rec' g args []=some (.pan v sr)->aD9 H rec' f g args dst st K KP=KP (.pan v) st) /\
  (∀v sr,H.pure g=false->rec' g args st.s=some (.pan v sr)->aD9 H rec' f g args dst st K KP=KP (.pan v) {st with s:=sr}):=by
 refine ⟨fun vs sr h1 h2 h3 h4=>?_,fun vs sr h1 h4=>?_,fun v sr h1 h2 h3 h4=>?_,fun v sr h1 h4=>?_⟩
 ·unfold aD9;simp only [ck,hok,cond_true,h1,h2,h4,Option.bind_some,h3]
 ·unfold aD9;simp only [ck,hok,cond_true,h1,cond_false,h4,Option.bind_some]
 ·unfold aD9;simp only [ck,hok,cond_true,h1,h2,h4,Option.bind_some,h3]
 ·unfold aD9;simp only [ck,hok,cond_true,h1,cond_false,h4,Option.bind_some]
end
end Go.Proofs.YtflhfchgdpbhcaaGreat.E
namespace Go.Proofs.YtflhfchgdpbhcaaGreat.E
open Go
section
variable {P:Program} {H:ae5}
def Outcome (X:(St->R)->Cont->R)(Y:Nat->(St->R)->Cont->R)(K:St->R)(KP:Cont)(out:Out):Prop:=
 (∃st',K st'=some out/\(∀K' KP',X K' KP'=K' st')/\∃n0,∀n,n0<=n->∀K' KP',Y n K' KP'=K' st') ∨
 (∃v st',KP (.pan v) st'=some out/\(∀K' KP',X K' KP'=KP' (.pan v) st')/\∃n0,∀n,n0<=n->∀K' KP',Y n K' KP'=KP' (.pan v) st')
def aq4 (P:Program)(H:ae5)(f g:FuncId)(dst:Option Nat)(st:St)(K:St->R)(v:V)(s:List O):R:=
 bif (H.own g).headD false&&(H.ext g).isNone&&nres P g==1 then (let r:=fresh v {st with s:=s};aA9 H f dst r.1 K r.2) else aA9 H f dst (v,.no) K {st with s:=s}
theorem yld_none {st:St}{c:Call}{g:FuncId×List V}(h:ag3 H st c=some g):aw5 H st c=none:=by
 unfold ag3 at h
 unfold aw5
 cases hc:c.callee with
 | builtin b=>rfl
 | invoke r m=>rfl
 | value f=>
  rw [hc] at h
  simp only at h ⊢
  split
  ·rename_i id e
   rw [e] at h
   cases h
  ·rfl
theorem aS4 {rec:Rec}{inr:Bool}{f:FuncId}{o:Oper}{c:Call}{st:St}{g:FuncId}{args:List V}(hop:o.op=.call c)(hnb:∀b,c.callee≠.builtin b)(hcal:ag3 H st c=some (g,args))(K:St->R)(KP:Cont):
  step P H rec inr f o K KP st=match H.ext g with
   | some e=>ck (args.all am0)<|(e args).bind fun v=>goOn H f o.dst (v,.no) K st
   | none=>ck (H.ok g) (aD9 H rec f g args o.dst st K KP):=by
 unfold step
 rw [hop]
 simp only
 cases hc:c.callee with
 | builtin b=>exact absurd hc (hnb b)
 | value _=>simp only [yld_none hcal,hcal,Option.bind_some];cases H.ext g<;>rfl
 | invoke _ _=>simp only [yld_none hcal,hcal,Option.bind_some];cases H.ext g<;>rfl
theorem bs2 {rec:Rec}{recn:Nat->Rec}(hm:aM5 rec recn){inr:Bool}{f:FuncId}{o:Oper}{c:Call}{st:St}{g:FuncId}{args:List V}(hop:o.op=.call c)(hnb:∀b,c.callee≠.builtin b)(hcal:ag3 H st c=some (g,args))(K:St->R)(KP:Cont)(out:Out)
  (X:(St->R)->Cont->R) (hX:∀K KP,X K KP=aB8 P H rec g args st.s (aq4 P H f g o.dst st K) (fun v s=>KP (.pan v) {st with s:=s})) (h:X K KP=some out):
  Outcome X (fun n K KP=>step P H (recn n) inr f o K KP st) K KP out:=by
 rw [hX] at h
 have hs0:({st with s:=st.s}:St)=st:=rfl
 rcases callG_out hm g args st.s _ _ out h with ⟨v,s',h1,h2,h3⟩ | ⟨v,s',h1,h2,he,hok,hall,sr,n0,h3⟩
 ·unfold aq4 at h1
  rcases h3 with ⟨e,he,hall,hv,rfl⟩ | ⟨he,hok,hall,vs,sr,n0,rfl,hlen,h3⟩
  ·rw [he] at h1
   simp only [Option.isNone_some,Bool.and_false,Bool.false_and,cond_false,au6] at h1
   obtain ⟨st',g1,g2,g3⟩:=aR6 h1
   refine .inl ⟨st',g2,fun K' KP'=>?_,0,fun n _ K' KP'=>?_⟩
   ·rw [hX,h2];unfold aq4;rw [he];simp only [Option.isNone_some,Bool.and_false,Bool.false_and,cond_false,au6];exact g3 K'
   ·refine (aS4 hop hnb hcal _ _).trans ?_;rw [he]
    simp only [ck,hall,cond_true,hv,Option.bind_some]
    exact g3 K'
  ·rw [he] at h1
   simp only [Option.isNone_none,Bool.and_true] at h1
   have key:∀(st2:St),(bif (H.own g).headD false&&nres P g==1 then (let r:=fresh (one vs) st2;aA9 H f o.dst r.1 K r.2) else aA9 H f o.dst (one vs,.no) K st2)=some out ->
     (∀K':St->R,aq4 P H f g o.dst st K' (one vs) s'=(bif (H.own g).headD false&&nres P g==1 then (let r:=fresh (one vs) st2;aA9 H f o.dst r.1 K' r.2) else aA9 H f o.dst (one vs,.no) K' st2)) ->
     (∀n,n0<=n->∀(K':St->R) (KP':Cont),aD9 H (recn n) f g args o.dst st K' KP'=(bif (H.own g).headD false&&vs.length==1 then (let r:=fresh (one vs) st2;goOn H f o.dst r.1 K' r.2) else goOn H f o.dst (one vs,.no) K' st2)) ->
     Outcome X (fun n K KP=>step P H (recn n) inr f o K KP st) K KP out:=by
    intro st2 q1 q2 q3
    have fin:∀st',K st'=some out->(∀K':St->R,(bif (H.own g).headD false&&nres P g==1 then (let r:=fresh (one vs) st2;goOn H f o.dst r.1 K' r.2) else goOn H f o.dst (one vs,.no) K' st2)=K' st')->Outcome X (fun n K KP=>step P H (recn n) inr f o K KP st) K KP out:=by
     intro st' g2 g3
     refine .inl ⟨st',g2,fun K' KP'=>?_,n0,fun n hn K' KP'=>?_⟩
     ·rw [hX,h2,q2];simp only [au6];exact g3 K'
     ·refine (aS4 hop hnb hcal _ _).trans ?_;rw [he]
      simp only [ck,hok,cond_true]
      rw [q3 n hn,hlen]
      exact g3 K'
    cases hb:((H.own g).headD false&&nres P g==1) with
    | true=>
     rw [hb] at q1
     simp only [cond_true,au6] at q1
     obtain ⟨st',g1,g2,g3⟩:=aR6 q1
     exact fin st' g2 (fun K'=>by rw [hb];exact g3 K')
    | false=>
     rw [hb] at q1
     simp only [cond_false,au6] at q1
     obtain ⟨st',g1,g2,g3⟩:=aR6 q1
     exact fin st' g2 (fun K'=>by rw [hb];exact g3 K')
   rcases h3 with ⟨hp,hno,hnv,rfl,hr⟩ | ⟨hp,rfl,hr⟩
   ·refine key st h1 (fun K'=>?_) (fun n hn K' KP'=>?_)
    ·unfold aq4;rw [he];simp only [Option.isNone_none,Bool.and_true]
    ·exact (bf2 hall K' KP').1 vs sr hp hno hnv (hr n hn)
   ·refine key {st with s:=s'} h1 (fun K'=>?_) (fun n hn K' KP'=>?_)
    ·unfold aq4;rw [he];simp only [Option.isNone_none,Bool.and_true]
    ·exact (bf2 hall K' KP').2.1 vs s' hp (hr n hn)
 ·rcases h3 with ⟨hp,hno,hnv,rfl,hr⟩ | ⟨hp,rfl,hr⟩
  ·refine .inr ⟨v,st,h1,fun K' KP'=>by rw [hX,h2],n0,fun n hn K' KP'=>?_⟩
   refine (aS4 hop hnb hcal _ _).trans ?_;rw [he]
   simp only [ck,hok,cond_true]
   exact (bf2 hall K' KP').2.2.1 v sr hp hno hnv (hr n hn)
  ·refine .inr ⟨v,{st with s:=s'},h1,fun K' KP'=>by rw [hX,h2],n0,fun n hn K' KP'=>?_⟩
   refine (aS4 hop hnb hcal _ _).trans ?_;rw [he]
   simp only [ck,hok,cond_true]
   exact (bf2 hall K' KP').2.2.2 v s' hp (hr n hn)
theorem by1 {rec:Rec}{recn:Nat->Rec}(hm:aM5 rec recn)(inr:Bool)(f:FuncId)(o:Oper)(st:St)(K:St->R)(KP:Cont)(out:Out)(h:stepT P H rec inr f o K KP st=some out):
  Outcome (fun K KP=>stepT P H rec inr f o K KP st) (fun n K KP=>step P H (recn n) inr f o K KP st) K KP out:=by
 have plain:∀(X:(St->R)->Cont->R) (Y:Nat->(St->R)->Cont->R),(∀K KP,X K KP=opKG P H f (o.dst.getD 0) o.op st fun r=>aA9 H f o.dst r.1 K r.2)->(∀n K KP,Y n K KP=(opV P H f (o.dst.getD 0) o.op st).bind fun r=>goOn H f o.dst r.1 K r.2)->X K KP=some out->Outcome X Y K KP out:=by
  intro X Y hX hY h
  rw [hX] at h
  obtain ⟨r,h1,h2⟩:=opKG_s f (o.dst.getD 0) o.op st _ out h
  rw [h2,au6] at h
  obtain ⟨st',g1,g2,g3⟩:=aR6 h
  refine .inl ⟨st',g2,fun K' KP'=>?_,0,fun n _ K' KP'=>?_⟩
  ·rw [hX,h2,au6];exact g3 K'
  ·rw [hY,h1];exact g3 K'
 cases hop:o.op with
 | call c=>
  cases hc:c.callee with
  | builtin b=>
   refine plain _ _ (fun K KP=>?_) (fun n K KP=>?_) h
   ·unfold stepT;rw [hop];simp only [hc]
   ·unfold step;rw [hop];simp only [hc]
  | value fo=>
   have hnb:∀b,c.callee≠.builtin b:=by rw [hc];simp
   have hX0:∀K KP,stepT P H rec inr f o K KP st=bk2 P H rec f c o.dst st K (fun v s=>KP (.pan v) {st with s:=s}):=by
    intro K KP;unfold stepT;rw [hop];simp only [hc]
   have dyn:(∀K KP,bk2 P H rec f c o.dst st K KP=aM4 P H rec (ev H st fo).1 (evs H st c.args.toList) st.s (fun v s=>aA9 H f o.dst (v,.no) K {st with s:=s}) KP)->Outcome (fun K KP=>stepT P H rec inr f o K KP st) (fun n K KP=>step P H (recn n) inr f o K KP st) K KP out:=by
    intro hd
    rw [hX0,hd] at h
    unfold aM4 at h
    split at h
    ·rename_i g first cap hev
     obtain ⟨hown,h⟩:=aa1 h
     have hown:(H.own g).headD false=false:=by simpa using hown
     have hcal:ag3 H st c=some (g,first++evs H st c.args.toList++cap):=by unfold ag3;rw [hc];simp only [hev]
     have hX:∀K KP,stepT P H rec inr f o K KP st=aB8 P H rec g (first++evs H st c.args.toList++cap) st.s (aq4 P H f g o.dst st K) (fun v s=>KP (.pan v) {st with s:=s}):=by
      intro K KP
      rw [hX0,hd]
      unfold aM4
      rw [hev]
      simp only [hown,ck,Bool.not_false,cond_true]
      congr 1
      funext v s
      unfold aq4
      rw [hown]
      simp only [Bool.false_and,cond_false]
     refine bs2 hm hop hnb hcal K KP out _ hX ?_
     show stepT P H rec inr f o K KP st=some out
     rw [hX0,hd]
     unfold aM4
     rw [hev]
     simp only [hown,ck,Bool.not_false,cond_true]
     exact h
    ·rename_i id hev
     obtain ⟨hall,h⟩:=aa1 h
     have hy:aw5 H st c=some id:=by unfold aw5;rw [hc];simp only [hev]
     cases hr:rec (P.funcs.size+id) (evs H st c.args.toList) st.s with
     | none=>rw [hr] at h;cases h
     | some out0=>
      rw [hr] at h
      cases out0 with
      | pan v s'=>cases h
      | ret vs s'=>
       simp only [ba9,au6] at h
       obtain ⟨st',g1,g2,g3⟩:=aR6 h
       obtain ⟨n0,hn⟩:=hm _ _ _ _ hr
       refine .inl ⟨st',g2,fun K' KP'=>?_,n0,fun n hle K' KP'=>?_⟩
       ·show stepT P H rec inr f o K' KP' st=_
        rw [hX0,hd]
        unfold aM4
        rw [hev]
        simp only [ck,hall,cond_true,hr,ba9,au6]
        exact g3 K'
       ·show step P H (recn n) inr f o K' KP' st=_
        unfold step
        rw [hop]
        simp only [hc,hy]
        unfold aX0
        simp only [ck,hall,cond_true,hn n hle,Option.bind_some]
        exact g3 K'
    ·cases h
   cases fo with
   | func g=>
    have hcal:ag3 H st c=some (g,evs H st c.args.toList):=by unfold ag3;rw [hc];simp [ev]
    refine bs2 hm hop hnb hcal K KP out _ (fun K KP=>?_) h
    show stepT P H rec inr f o K KP st=_
    rw [hX0];unfold bk2;rw [hc];rfl
   | _=>exact dyn fun K KP=>by unfold bk2;rw [hc]
  | invoke rr m=>
   have hnb:∀b,c.callee≠.builtin b:=by rw [hc];simp
   have hX0:∀K KP,stepT P H rec inr f o K KP st=bp4 P H rec (ev H st rr).1 m (evs H st c.args.toList) st.s (fun v s=>aA9 H f o.dst (v,.no) K {st with s:=s}) (fun v s=>KP (.pan v) {st with s:=s}):=by
    intro K KP;unfold stepT;rw [hop];simp only [hc];unfold bk2;rw [hc]
   rw [hX0] at h
   unfold bp4 at h
   split at h
   ·rename_i t v hev
    split at h
    ·rename_i g hg
     obtain ⟨hown,h⟩:=aa1 h
     have hown:(H.own g).headD false=false:=by simpa using hown
     have hcal:ag3 H st c=some (g,v::evs H st c.args.toList):=by unfold ag3;rw [hc];simp only [hev,hg,Option.map_some]
     have hX:∀K KP,stepT P H rec inr f o K KP st=aB8 P H rec g (v::evs H st c.args.toList) st.s (aq4 P H f g o.dst st K) (fun v s=>KP (.pan v) {st with s:=s}):=by
      intro K KP
      rw [hX0]
      unfold bp4
      rw [hev]
      simp only [hg,hown,ck,Bool.not_false,cond_true]
      congr 1
      funext v s
      unfold aq4
      rw [hown]
      simp only [Bool.false_and,cond_false]
     refine bs2 hm hop hnb hcal K KP out _ hX ?_
     show stepT P H rec inr f o K KP st=some out
     rw [hX0]
     unfold bp4
     rw [hev]
     simp only [hg,hown,ck,Bool.not_false,cond_true]
     exact h
    ·cases h
   ·cases h
 | defer c=>
  have h0:=h
  unfold stepT at h
  rw [hop] at h
  simp only at h
  have hck:=aa1 h
  obtain ⟨h1,h2⟩:=hck
  obtain ⟨g,hg,h2⟩:=Option.bind_eq_some_iff.1 h2
  obtain ⟨h3,h4⟩:=aa1 h2
  refine .inl ⟨_,h4,fun K' KP'=>?_,0,fun n _ K' KP'=>?_⟩
  ·show stepT P H rec inr f o K' KP' st=_
   unfold stepT;rw [hop]
   refine (congrArg (fun b=>ck b _) h1).trans ?_
   show Option.bind _ _=_
   rw [hg]
   exact (congrArg (fun b=>ck b _) h3)
  ·unfold step;rw [hop]
   refine (congrArg (fun b=>ck b _) h1).trans ?_
   show Option.bind _ _=_
   rw [hg]
   exact (congrArg (fun b=>ck b _) h3)
 | panic x=>
  unfold stepT at h
  rw [hop] at h
  simp only at h
  split at h
  ·rename_i t v e
   refine .inr ⟨.iface t v,st,h,fun K' KP'=>?_,0,fun n _ K' KP'=>?_⟩
   ·show stepT P H rec inr f o K' KP' st=_
    unfold stepT;rw [hop];simp only [e]
   ·unfold step;rw [hop];simp only [e]
  ·cases h
 | _=>
  unfold stepT at h
  rw [hop] at h
  simp only at h
  obtain ⟨hck,h⟩:=aa1 h
  have hs:∀K KP,stepT P H rec inr f o K KP st=opKG P H f (o.dst.getD 0) o.op st fun r=>aA9 H f o.dst r.1 K r.2:=by
   intro K KP;unfold stepT;rw [hop];simp only [ck,hck,cond_true]
  refine plain _ _ hs (fun n K KP=>?_) (by rw [hs,hop];exact h)
  unfold step;rw [hop];simp only [ck,hck,cond_true]
end
end Go.Proofs.YtflhfchgdpbhcaaGreat.E
namespace Go.Proofs.YtflhfchgdpbhcaaGreat.E
open Go
section
variable {P:Program} {H:ae5}
def Fine (L:List (Ex×St))(K:Cont)(o:Out):Prop:=∀p∈L,K p.1 p.2=some o
def ad5 (X:Cont->R)(Y:Nat->Cont->R):Prop:=∀K o,X K=some o->∃L,Fine L K o/\(∀K' o',Fine L K' o'->X K'=some o')/\∃n0,∀n,n0<=n->∀K' o',Fine L K' o'->Y n K'=some o'
theorem Fine.app {L L':List (Ex×St)}{K:Cont}{o:Out}:Fine (L++L') K o↔Fine L K o/\Fine L' K o:=by
 unfold Fine
 constructor
 ·exact fun h=>⟨fun p hp=>h p (List.mem_append_left _ hp),fun p hp=>h p (List.mem_append_right _ hp)⟩
 ·rintro ⟨h1,h2⟩ p hp
  rcases List.mem_append.1 hp with q | q
  ·exact h1 p q
  ·exact h2 p q
theorem comb {I:Type}(T:I->Cont->Ex->St->R)(Tn:Nat->I->Cont->Ex->St->R)(K:Cont)(o:Out):∀(L1:List (Ex×St)),
  (∀p∈L1,∃L,Fine L K o/\(∀K' o',Fine L K' o'->∀i,T i K' p.1 p.2=some o')/\∃n0,∀n,n0<=n->∀K' o',Fine L K' o'->∀i,Tn n i K' p.1 p.2=some o') ->
  ∃L,Fine L K o/\(∀K' o',Fine L K' o'->∀i,∀p∈L1,T i K' p.1 p.2=some o')/\∃n0,∀n,n0<=n->∀K' o',Fine L K' o'->∀i,∀p∈L1,Tn n i K' p.1 p.2=some o'
 | [],_=>⟨[],(fun p hp=>by cases hp),(fun _ _ _ _ p hp=>by cases hp),0,(fun _ _ _ _ _ _ p hp=>by cases hp)⟩
 | p::r,h=>by
  obtain ⟨L,a1,a2,n0,a3⟩:=h p (List.mem_cons_self)
  obtain ⟨L',b1,b2,n1,b3⟩:=comb T Tn K o r fun q hq=>h q (List.mem_cons_of_mem _ hq)
  refine ⟨L++L',Fine.app.2 ⟨a1,b1⟩,fun K' o' hf i q hq=>?_,n0+n1,fun n hn K' o' hf i q hq=>?_⟩
  ·obtain ⟨f1,f2⟩:=Fine.app.1 hf
   rcases List.mem_cons.1 hq with rfl | hq
   ·exact a2 K' o' f1 i
   ·exact b2 K' o' f2 i q hq
  ·obtain ⟨f1,f2⟩:=Fine.app.1 hf
   rcases List.mem_cons.1 hq with rfl | hq
   ·exact a3 n (by omega) K' o' f1 i
   ·exact b3 n (by omega) K' o' f2 i q hq
theorem ad5.bind {X:Cont->R}{Y:Nat->Cont->R}(h:ad5 X Y)(T:Cont->Cont)(Tn:Nat->Cont->Cont)
  (hp:∀e st,ad5 (fun K=>T K e st) (fun n K=>Tn n K e st)):ad5 (fun K=>X (T K)) (fun n K=>Y n (Tn n K)):=by
 intro K o hx
 obtain ⟨L1,f1,h1,n1,h2⟩:=h _ o hx
 obtain ⟨L,a1,a2,n0,a3⟩:=comb (I:=Unit) (fun _ K=>T K) (fun n _ K=>Tn n K) K o L1 (fun p hpm=>by
  obtain ⟨L,b1,b2,n0,b3⟩:=hp p.1 p.2 K o (f1 p hpm)
  exact ⟨L,b1,fun K' o' hf _=>b2 K' o' hf,n0,fun n hn K' o' hf _=>b3 n hn K' o' hf⟩)
 exact ⟨L,a1,fun K' o' hf=>h1 _ _ fun p hpm=>a2 K' o' hf () p hpm,n0+n1,fun n hn K' o' hf=>h2 n (by omega) _ _ fun p hpm=>a3 n (by omega) K' o' hf () p hpm⟩
theorem ad5.self (e:Ex)(st:St):ad5 (fun K=>K e st) (fun _ K=>K e st):=fun K o h=>
 ⟨[(e,st)],(fun p hp=>by simp at hp;subst hp;exact h),fun K' o' hf=>hf (e,st) (by simp),0,fun n _ K' o' hf=>hf (e,st) (by simp)⟩
theorem ad5.none (Y:Nat->Cont->R):ad5 (fun _=>none) Y:=fun K o h=>by cases h
theorem ad5.bz9 {α:Type}(x:Option α){X:α->Cont->R}{Y:α->Nat->Cont->R}(h:∀a,ad5 (X a) (Y a)):ad5 (fun K=>x.bind fun a=>X a K) (fun n K=>x.bind fun a=>Y a n K):=by
 cases x with
 | none=>exact ad5.none _
 | some a=>exact h a
theorem Outcome.comes {X:(St->R)->Cont->R}{Y:Nat->(St->R)->Cont->R}(h:∀K KP o,X K KP=some o->Outcome X Y K KP o)(T:Cont->St->R)(Tn:Nat->Cont->St->R)(hT:∀st,ad5 (fun K=>T K st) (fun n K=>Tn n K st)):
  ad5 (fun K=>X (T K) K) (fun n K=>Y n (Tn n K) K):=by
 intro K o hx
 rcases h _ _ _ hx with ⟨st',h1,h2,n0,h3⟩ | ⟨v,st',h1,h2,n0,h3⟩
 ·obtain ⟨L,a1,a2,n1,a3⟩:=hT st' K o h1
  exact ⟨L,a1,fun K' o' hf=>(h2 _ _).trans (a2 K' o' hf),n0+n1,fun n hn K' o' hf=>(h3 n (by omega) _ _).trans (a3 n (by omega) K' o' hf)⟩
 ·exact ⟨[(.pan v,st')],(fun p hp=>by simp at hp;subst hp;exact h1),fun K' o' hf=>(h2 _ _).trans (hf (.pan v,st') (by simp)),n0,fun n hn K' o' hf=>(h3 n hn _ _).trans (hf (.pan v,st') (by simp))⟩
theorem bu4 {rec:Rec}{recn:Nat->Rec}(hm:aM5 rec recn)(inr:Bool)(f:FuncId)(all:Array Oper):∀(l:List Oper) (st:St),
  ad5 (fun K=>opsT P H rec inr f all (K .normal) K l st) (fun n K=>ops P H (recn n) inr f all (K .normal) K l st)
 | [],st=>ad5.self .normal st
 | o::r,st=>by
  have ih:=bu4 hm inr f all r
  have go:ad5 (fun K=>stepT P H rec inr f o (opsT P H rec inr f all (K .normal) K r) K st) (fun n K=>step P H (recn n) inr f o (ops P H (recn n) inr f all (K .normal) K r) K st):=
   Outcome.comes (X:=fun K KP=>stepT P H rec inr f o K KP st) (Y:=fun n K KP=>step P H (recn n) inr f o K KP st) (fun K KP o' h=>by1 hm inr f o st K KP o' h) (fun K=>opsT P H rec inr f all (K .normal) K r) (fun n K=>ops P H (recn n) inr f all (K .normal) K r) ih
  simp only [opsT,ops]
  cases hg:o.guard with
  | none=>exact go
  | some g=>
   obtain ⟨j,want⟩:=g
   simp only
   cases (all[j]?).bind (·.dst) with
   | none=>exact ad5.none _
   | some d=>
    simp only [Option.map_some]
    generalize hv:(st.t.getD d (.undef,.no)).1=v
    cases v with
    | bool b=>
     simp only
     cases want<;>cases b<;>simp only [cond_true,cond_false,beq_self_eq_true,show (true==false)=false from rfl,show (false==true)=false from rfl,aG3 hv]<;>first | exact go | exact ih _
    | tup vs=>cases vs with
     | nil=>exact ih _
     | cons _ _=>exact ad5.none _
    | _=>exact ad5.none _
theorem ap6 {f:FuncId}{dst:Option Nat}{v:V×Tag}{st:St}{K:St->R}{o:Out}(h:goOn H f dst v K st=some o):∃s2,goD H f dst v st=some s2:=let ⟨s2,h1,_⟩:=aR6 h;⟨s2,h1⟩
theorem bb0 {rec:Rec}{f g:FuncId}{args:List V}{dst:Option Nat}{st:St}{K:St->R}{o:Out}(h:aD9 H rec f g args dst st K (fun _ _=>none)=some o):∃s2,aR8 H rec f g args dst st=some s2:=by
 unfold aD9 at h
 obtain ⟨c1,h⟩:=aa1 h
 unfold aR8
 simp only [ck,c1,cond_true]
 cases hp:H.pure g with
 | false=>
  rw [hp] at h
  simp only [cond_false] at h ⊢
  obtain ⟨out,ho,h⟩:=Option.bind_eq_some_iff.1 h
  rw [ho]
  simp only [Option.bind_some]
  cases out with
  | pan v s=>cases h
  | ret vs s=>
   simp only at h ⊢
   cases hh:((H.own g).headD false&&vs.length==1) with
   | true=>rw [hh] at h;exact ap6 h
   | false=>rw [hh] at h;exact ap6 h
 | true=>
  rw [hp] at h
  simp only [cond_true] at h ⊢
  obtain ⟨c2,h⟩:=aa1 h
  simp only [c2,cond_true]
  obtain ⟨out,ho,h⟩:=Option.bind_eq_some_iff.1 h
  rw [ho]
  simp only [Option.bind_some]
  cases out with
  | pan v s=>obtain ⟨_,h⟩:=aa1 h;cases h
  | ret vs s=>
   simp only at h ⊢
   obtain ⟨c3,h⟩:=aa1 h
   simp only [c3,cond_true]
   cases hh:((H.own g).headD false&&vs.length==1) with
   | true=>rw [hh] at h;exact ap6 h
   | false=>rw [hh] at h;exact ap6 h
theorem aV2 {rec:Rec}{f:FuncId}{id:Nat}{args:List V}{dst:Option Nat}{st:St}{K:St->R}{o:Out}(h:aX0 P H rec f id args dst st K=some o):∃s2,aT5 P H rec f id args dst st=some s2:=by
 unfold aX0 at h
 unfold aT5
 obtain ⟨c1,h⟩:=aa1 h
 obtain ⟨out,ho,h⟩:=Option.bind_eq_some_iff.1 h
 simp only [ck,c1,cond_true,ho,Option.bind_some]
 cases out with
 | pan v s=>cases h
 | ret vs s=>exact ap6 h
theorem stepD_of_step {rec:Rec}{inr:Bool}{f:FuncId}{o:Oper}{st:St}{K:St->R}{out:Out}(h1:∀c,o.op≠.defer c)(h2:∀x,o.op≠.panic x)(h:step P H rec inr f o K (fun _ _=>none) st=some out):∃s2,an0 P H rec f o st=some s2:=by
 cases hop:o.op with
 | call c=>
  unfold step at h
  unfold an0
  rw [hop] at h ⊢
  simp only at h ⊢
  cases hc:c.callee with
  | builtin b=>
   simp only [hc] at h ⊢
   obtain ⟨r,hr,h⟩:=Option.bind_eq_some_iff.1 h
   rw [hr]
   exact ap6 h
  | value fo=>
   simp only [hc] at h ⊢
   cases hy:aw5 H st c with
   | some id=>
    rw [hy] at h
    exact aV2 h
   | none=>
   rw [hy] at h
   simp only at h ⊢
   obtain ⟨g,hg,h⟩:=Option.bind_eq_some_iff.1 h
   rw [hg]
   simp only [Option.bind_some]
   cases he:H.ext g.1 with
   | some e=>
    rw [he] at h
    simp only at h ⊢
    obtain ⟨c1,h⟩:=aa1 h
    obtain ⟨v,hv,h⟩:=Option.bind_eq_some_iff.1 h
    simp only [ck,c1,cond_true,hv,Option.bind_some]
    exact ap6 h
   | none=>
    rw [he] at h
    simp only at h ⊢
    obtain ⟨c1,h⟩:=aa1 h
    simp only [ck,c1,cond_true]
    exact bb0 h
  | invoke r m=>
   simp only [hc] at h ⊢
   cases hy:aw5 H st c with
   | some id=>
    rw [hy] at h
    exact aV2 h
   | none=>
   rw [hy] at h
   simp only at h ⊢
   obtain ⟨g,hg,h⟩:=Option.bind_eq_some_iff.1 h
   rw [hg]
   simp only [Option.bind_some]
   cases he:H.ext g.1 with
   | some e=>
    rw [he] at h
    simp only at h ⊢
    obtain ⟨c1,h⟩:=aa1 h
    obtain ⟨v,hv,h⟩:=Option.bind_eq_some_iff.1 h
    simp only [ck,c1,cond_true,hv,Option.bind_some]
    exact ap6 h
   | none=>
    rw [he] at h
    simp only at h ⊢
    obtain ⟨c1,h⟩:=aa1 h
    simp only [ck,c1,cond_true]
    exact bb0 h
 | defer c=>exact absurd hop (h1 c)
 | panic x=>exact absurd hop (h2 x)
 | _=>
  unfold step at h
  unfold an0
  rw [hop] at h ⊢
  simp only at h ⊢
  obtain ⟨c1,h⟩:=aa1 h
  obtain ⟨r,hr,h⟩:=Option.bind_eq_some_iff.1 h
  simp only [ck,c1,cond_true,hr,Option.bind_some]
  exact ap6 h
theorem bt9 {rec:Rec}{recn:Nat->Rec}(hm:aM5 rec recn)(f:FuncId)(o:Oper)(st:St)(K:St->R)(out:Out)(h:aF9 P H rec f o st K=some out):
  ∃st',K st'=some out/\(∀K',aF9 P H rec f o st K'=K' st')/\∃n0,∀n,n0<=n->an0 P H (recn n) f o st=some st':=by
 have hnd:(∀c,o.op≠.defer c)/\(∀x,o.op≠.panic x)/\∀K,aF9 P H rec f o st K=stepT P H rec true f o K (fun _ _=>none) st:=by
  unfold aF9 at h ⊢
  cases hop:o.op with
  | defer c=>rw [hop] at h;cases h
  | panic x=>rw [hop] at h;cases h
  | _=>exact ⟨by simp,by simp,fun K=>rfl⟩
 obtain ⟨h1,h2,h3⟩:=hnd
 rw [h3] at h
 rcases by1 hm true f o st K _ out h with ⟨st',g1,g2,n0,g3⟩ | ⟨v,st',g1,_⟩
 ·refine ⟨st',g1,fun K'=>by rw [h3];exact g2 K' _,n0,fun n hn=>?_⟩
  have key:∀n,n0<=n->an0 P H (recn n) f o st=some st':=by
   intro n hn
   classical
   have hk:=g3 n hn
   have ex:∃s2,an0 P H (recn n) f o st=some s2:=by
    have hk1:=hk (fun _=>some (.ret [] [])) (fun _ _=>none)
    simp only at hk1
    exact stepD_of_step h1 h2 hk1
   obtain ⟨s2,hs2⟩:=ex
   have h5:=(hk (fun x=>if x=st' then some (.ret [] []) else none) (fun _ _=>none)).symm.trans (bt7 (inr:=true) hs2 (fun x=>if x=st' then some (.ret [] []) else none) (fun _ _=>none))
   simp only [if_true] at h5
   split at h5
   ·rename_i e;rw [hs2,e]
   ·cases h5
  exact key n hn
 ·cases g1
end
end Go.Proofs.YtflhfchgdpbhcaaGreat.E
namespace Go.Proofs.YtflhfchgdpbhcaaGreat.E
open Go
mutual
theorem aS1 :∀a:V,beqV a a=true
 | .undef | .nilptr | .nilmap | .nilfunc | .nilif=>by simp [beqV]
 | .bool _ | .int _ _ | .str _ | .obj _ _ | .slo _ _ _ _ _ | .loc _ _ | .map _ | .yld _=>by simp [beqV]
 | .list n k es=>by simp [beqV,ar9 es]
 | .agg es=>by simp [beqV,ar9 es]
 | .tup es=>by simp [beqV,ar9 es]
 | .ref es=>by simp [beqV,ar9 es]
 | .func f a b=>by simp [beqV,ar9 a,ar9 b,fnB]
 | .iface t v=>by simp [beqV,aS1 v]
theorem ar9 :∀a:List V,aS0 a a=true
 | []=>rfl
 | v::r=>by simp [aS0,aS1 v,ar9 r]
end
theorem bE7 :∀a:List (V×Bool),beqC a a=true
 | []=>rfl
 | v::r=>by simp [beqC,aS1,bE7 r]
theorem bE6 :∀a:List (V×V),beqE a a=true
 | []=>rfl
 | v::r=>by simp [beqE,aS1,bE6 r]
theorem beqO_refl (a:O):beqO a a=true:=by cases a<;>simp [beqO,bE7,bE6,ar9]
theorem bw3 :∀a:List O,bk8 a a=true
 | []=>rfl
 | v::r=>by simp [bk8,beqO_refl,bw3 r]
theorem bp6 (a:Out):bk7 a a=true:=by cases a<;>simp [bk7,ar9,aS1,bw3]
theorem both_of {x y:R}{o:Out}(h1:x=some o)(h2:y=some o):both x y=some o:=by
 subst h1;subst h2;simp [both,bp6]
theorem bs7 {o:Out}:∀(l:List R),l≠[]->(∀x∈l,x=some o)->aE2 l=some o
 | [],h,_=>absurd rfl h
 | [x],_,h=>h x (by simp)
 | x::y::r,_,h=>both_of (h x (by simp)) (bs7 (y::r) (by simp) fun z hz=>h z (List.mem_cons_of_mem _ hz))
section
variable {P:Program} {H:ae5}
theorem opDT_out {rec:Rec}{recn:Nat->Rec}(hm:aM5 rec recn)(f:FuncId)(all:Array Oper)(i:Nat)(st:St)(K:St->R)(out:Out)(h:opDT P H rec f all i st K=some out):
  ∃st',K st'=some out/\(∀K',opDT P H rec f all i st K'=K' st')/\∃n0,∀n,n0<=n->opD P H (recn n) f all i st=some st':=by
 unfold opDT at h
 cases ho:all[i]? with
 | none=>rw [ho] at h;cases h
 | some o=>
  rw [ho] at h
  simp only at h
  cases hg:o.guard with
  | none=>
   rw [hg] at h
   obtain ⟨st',a1,a2,n0,a3⟩:=bt9 hm f o st K out h
   exact ⟨st',a1,fun K'=>by unfold opDT;rw [ho];simp only [hg];exact a2 K',n0,fun n hn=>by unfold opD;rw [ho];simp only [Option.bind_some,hg];exact a3 n hn⟩
  | some g=>
   obtain ⟨j,want⟩:=g
   rw [hg] at h
   simp only at h
   cases hd0:(all[j]?).bind (·.dst) with
   | none=>rw [hd0] at h;cases h
   | some d=>
    rw [hd0] at h
    simp only at h
    generalize hv:(st.t.getD d (.undef,.no)).1=v at h
    have hd:((all[j]?).bind (·.dst)).map (fun d=>(st.t.getD d (.undef,.no)).1)=some v:=by rw [hd0,Option.map_some,hv]
    have skip:K (st.put o.dst (.tup [],.no))=some out->(∀K':St->R,opDT P H rec f all i st K'=K' (st.put o.dst (.tup [],.no)))->(∀n,opD P H (recn n) f all i st=some (st.put o.dst (.tup [],.no)))->∃st',K st'=some out/\(∀K':St->R,opDT P H rec f all i st K'=K' st')/\∃n0,∀n,n0<=n->opD P H (recn n) f all i st=some st':=
     fun e1 e2 e3=>⟨_,e1,e2,0,fun n _=>e3 n⟩
    have go:aF9 P H rec f o st K=some out->(∀K':St->R,opDT P H rec f all i st K'=aF9 P H rec f o st K')->(∀n,opD P H (recn n) f all i st=an0 P H (recn n) f o st)->∃st',K st'=some out/\(∀K':St->R,opDT P H rec f all i st K'=K' st')/\∃n0,∀n,n0<=n->opD P H (recn n) f all i st=some st':=by
     intro e1 e2 e3
     obtain ⟨st',a1,a2,n0,a3⟩:=bt9 hm f o st K out e1
     exact ⟨st',a1,fun K'=>(e2 K').trans (a2 K'),n0,fun n hn=>(e3 n).trans (a3 n hn)⟩
    cases v with
    | bool b=>
     simp only at h
     cases want<;>cases b<;>simp only [cond_true,cond_false,aG3 hv] at h
     ·refine go h (fun K'=>?_) (fun n=>?_)
      ·unfold opDT;rw [ho];simp only [hg,hd0,hv,cond_false,aG3 hv]
      ·unfold opD;rw [ho];simp only [Option.bind_some,hg,hd,beq_self_eq_true,cond_true]
     ·refine skip h (fun K'=>?_) (fun n=>?_)
      ·unfold opDT;rw [ho];simp only [hg,hd0,hv,cond_true,cond_false,aG3 hv]
      ·unfold opD;rw [ho];simp only [Option.bind_some,hg,hd,show (true==false)=false from rfl,cond_false]
     ·refine skip h (fun K'=>?_) (fun n=>?_)
      ·unfold opDT;rw [ho];simp only [hg,hd0,hv,cond_true,cond_false,aG3 hv]
      ·unfold opD;rw [ho];simp only [Option.bind_some,hg,hd,show (false==true)=false from rfl,cond_false]
     ·refine go h (fun K'=>?_) (fun n=>?_)
      ·unfold opDT;rw [ho];simp only [hg,hd0,hv,cond_true,aG3 hv]
      ·unfold opD;rw [ho];simp only [Option.bind_some,hg,hd,beq_self_eq_true,cond_true]
    | tup vs=>cases vs with
     | nil=>
      refine skip h (fun K'=>?_) (fun n=>?_)
      ·unfold opDT;rw [ho];simp only [hg,hd0,hv]
      ·unfold opD;rw [ho];simp only [Option.bind_some,hg,hd]
     | cons _ _=>cases h
    | _=>cases h
theorem drawnT_comes {rec:Rec}{recn:Nat->Rec}(hm:aM5 rec recn)(f:FuncId)(os:Array Oper):∀(n:Nat) (S:Array Bool) (st:St),
  ad5 (fun K=>av2 P H rec f os (K .normal) n S st) (fun m K=>drawn P H (recn m) f os (K .normal) n S st):=by
 intro n
 induction n with
 | zero=>
  intro S st
  simp only [av2,drawn]
  unfold ck
  cases (Region.ready .any os S).isEmpty with
  | true=>exact ad5.self .normal st
  | false=>exact ad5.none _
 | succ n ih=>
  intro S st
  have one:∀p,ad5 (fun K=>opDT P H rec f os p st (av2 P H rec f os (K .normal) n (S.setIfInBounds p true))) (fun m K=>(opD P H (recn m) f os p st).bind (drawn P H (recn m) f os (K .normal) n (S.setIfInBounds p true))):=by
   intro p K o h
   obtain ⟨st',a1,a2,n0,a3⟩:=opDT_out hm f os p st _ o h
   obtain ⟨L,b1,b2,n1,b3⟩:=ih (S.setIfInBounds p true) st' K o a1
   refine ⟨L,b1,fun K' o' hf=>(a2 _).trans (b2 K' o' hf),n0+n1,fun m hm' K' o' hf=>?_⟩
   show (opD P H (recn m) f os p st).bind _=_
   rw [a3 m (by omega)]
   exact b3 m (by omega) K' o' hf
  simp only [av2,drawn]
  cases hr:Region.ready .any os S with
  | nil=>exact ad5.self .normal st
  | cons a r=>
   simp only
   cases hfd:(a::r).find? (free P H f os S) with
   | some p=>exact one p
   | none=>
    intro K o h
    have hall:=bc6 _ h
    have key:∀l:List Nat,(∀i∈l,opDT P H rec f os i st (av2 P H rec f os (K .normal) n (S.setIfInBounds i true))=some o) ->
      ∃L,Fine L K o/\(∀K' o',Fine L K' o'->∀i∈l,opDT P H rec f os i st (av2 P H rec f os (K' .normal) n (S.setIfInBounds i true))=some o') /\
       ∃n0,∀m,n0<=m->∀K' o',Fine L K' o'->∀i∈l,(opD P H (recn m) f os i st).bind (drawn P H (recn m) f os (K' .normal) n (S.setIfInBounds i true))=some o':=by
     intro l
     induction l with
     | nil=>exact fun _=>⟨[],(fun p hp=>by cases hp),(fun _ _ _ i hi=>by cases hi),0,(fun _ _ _ _ _ i hi=>by cases hi)⟩
     | cons i l ihl=>
      intro hl
      obtain ⟨L,a1,a2,n0,a3⟩:=one i K o (hl i (by simp))
      obtain ⟨L',b1,b2,n1,b3⟩:=ihl fun j hj=>hl j (List.mem_cons_of_mem _ hj)
      refine ⟨L++L',Fine.app.2 ⟨a1,b1⟩,fun K' o' hf j hj=>?_,n0+n1,fun m hm' K' o' hf j hj=>?_⟩
      ·obtain ⟨f1,f2⟩:=Fine.app.1 hf
       rcases List.mem_cons.1 hj with rfl | hj
       ·exact a2 K' o' f1
       ·exact b2 K' o' f2 j hj
      ·obtain ⟨f1,f2⟩:=Fine.app.1 hf
       rcases List.mem_cons.1 hj with rfl | hj
       ·exact a3 m (by omega) K' o' f1
       ·exact b3 m (by omega) K' o' f2 j hj
    obtain ⟨L,a1,a2,n0,a3⟩:=key (a::r) fun i hi=>hall _ (List.mem_map_of_mem hi)
    refine ⟨L,a1,fun K' o' hf=>bs7 _ (by simp) fun x hx=>?_,n0,fun m hm' K' o' hf=>bs7 _ (by simp) fun x hx=>?_⟩
    ·obtain ⟨i,hi,rfl⟩:=List.mem_map.1 hx
     exact a2 K' o' hf i hi
    ·obtain ⟨i,hi,rfl⟩:=List.mem_map.1 hx
     exact a3 m hm' K' o' hf i hi
theorem callV_kp {rec:Rec}{f g:FuncId}{args:List V}{dst:Option Nat}{st:St}{K:St->R}{KP KP':Cont}(h:∀v st,KP (.pan v) st=KP' (.pan v) st):aD9 H rec f g args dst st K KP=aD9 H rec f g args dst st K KP':=by
 unfold aD9
 congr 1
 cases H.pure g with
 | true=>
  simp only [cond_true]
  congr 1
  cases rec g args [] with
  | none=>rfl
  | some o=>cases o with
   | ret vs s=>rfl
   | pan v s=>simp only [Option.bind_some,h]
 | false=>
  simp only [cond_false]
  cases rec g args st.s with
  | none=>rfl
  | some o=>cases o with
   | ret vs s=>rfl
   | pan v s=>simp only [Option.bind_some,h]
theorem step_kp {rec:Rec}{inr:Bool}{f:FuncId}{o:Oper}{K:St->R}{KP KP':Cont}(h:∀v st,KP (.pan v) st=KP' (.pan v) st)(st:St):step P H rec inr f o K KP st=step P H rec inr f o K KP' st:=by
 unfold step
 cases o.op with
 | call c=>
  simp only
  cases c.callee with
  | builtin b=>rfl
  | value fo=>
   simp only
   cases aw5 H st c with
   | some id=>rfl
   | none=>
   simp only
   cases ag3 H st c with
   | none=>rfl
   | some g=>
    simp only [Option.bind_some]
    cases H.ext g.1 with
    | some e=>rfl
    | none=>simp only;rw [callV_kp h]
  | invoke r m=>
   simp only
   cases aw5 H st c with
   | some id=>rfl
   | none=>
   simp only
   cases ag3 H st c with
   | none=>rfl
   | some g=>
    simp only [Option.bind_some]
    cases H.ext g.1 with
    | some e=>rfl
    | none=>simp only;rw [callV_kp h]
 | panic x=>
  simp only
  cases (ev H st x).1<;>first | rfl | exact h _ _
 | _=>rfl
theorem ops_kp {rec:Rec}{inr:Bool}{f:FuncId}{all:Array Oper}{K:St->R}{KP KP':Cont}(h:∀v st,KP (.pan v) st=KP' (.pan v) st):∀(l:List Oper) (st:St),ops P H rec inr f all K KP l st=ops P H rec inr f all K KP' l st
 | [],st=>rfl
 | o::r,st=>by
  have ih:ops P H rec inr f all K KP r=ops P H rec inr f all K KP' r:=funext (ops_kp h r)
  simp only [ops]
  rw [ih]
  simp only [step_kp h]
theorem bp1 (st:St)(e:Nat):∀es:List Nat,ad5 (fun K=>bj9 es e fun e=>K (.exit e) st) (fun _ K=>bj9 es e fun e=>K (.exit e) st)
 | []=>ad5.none _
 | a::r=>by
  simp only [bj9]
  cases Nat.beq a e with
  | true=>exact ad5.self (.exit a) st
  | false=>exact bp1 st e r
theorem jumpK_comes (es:List Nat)(st:St)(pend:Option (Option Nat)):ad5 (fun K=>jumpK es K st pend) (fun _ K=>jumpK es K st pend):=by
 cases pend with
 | none=>exact ad5.self .normal st
 | some j=>cases j with
  | none=>exact ad5.self .ret st
  | some e=>exact bp1 st e es
theorem rangeV_comes {rec:Rec}{recn:Nat->Rec}(hm:aM5 rec recn)(inr:Bool)(f:FuncId)(g:Operand)(ps es:List Nat)(st:St):ad5 (fun K=>aB2 P H rec inr f g ps es K st) (fun n K=>aB2 P H (recn n) inr f g ps es K st):=by
 intro K o h
 have h0:=h
 unfold aB2 at h
 have hck:=aa1 h
 clear h
 obtain ⟨c1,h⟩:=hck
 split at h
 ·rename_i hf first cap hev
  have hck:=aa1 h
  clear h
  obtain ⟨c2,h⟩:=hck
  obtain ⟨out,ho,h⟩:=Option.bind_eq_some_iff.1 h
  obtain ⟨n0,hn⟩:=hm _ _ _ _ ho
  have key:∀(rec':Rec),rec' hf (first++[.yld st.s.length]++cap) (st.s++[.loop f ps (st.t.map fun p=>bg5 p.1) 0 none])=some out->∀K':Cont,aB2 P H rec' inr f g ps es K' st=aY3 es K' st out:=by
   intro rec' hr K'
   unfold aB2
   simp only [ck,c1,cond_true,hev,c2,hr,Option.bind_some]
  have fin:ad5 (fun K':Cont=>aY3 es K' st out) (fun _ K'=>aY3 es K' st out):=by
   unfold aY3 lpK
   cases out with
   | pan v s=>exact ad5.self (.pan v) _
   | ret vs s=>
    simp only
    cases s[st.s.length]? with
    | none=>exact ad5.none _
    | some o=>cases o with
     | loop f' ps' t' q pend=>
      simp only
      unfold ck
      cases !(Nat.beq q 1) with
      | true=>exact jumpK_comes _ _ _
      | false=>exact ad5.none _
     | _=>exact ad5.none _
  obtain ⟨L,a1,a2,n1,a3⟩:=fin K o (show aY3 es K st out=some o by rw [←key rec ho K];exact h0)
  exact ⟨L,a1,fun K' o' hf=>by show aB2 P H rec inr _ g ps es K' st=_;rw [key rec ho];exact a2 K' o' hf,n0+n1,fun n hle K' o' hf=>by show aB2 P H (recn n) inr _ g ps es K' st=_;rw [key (recn n) (hn n (by omega))];exact a3 n (by omega) K' o' hf⟩
 ·cases h
theorem at8 {rec:Rec}{recn:Nat->Rec}(hm:aM5 rec recn)(inr:Bool)(f:FuncId)(c:Code):∀st,ad5 (fun K=>af9 P H rec inr f c K st) (fun n K=>code P H (recn n) n inr f c K st):=by
 have hreg:∀(b:Bhd) (e:Ex) (st:St),ad5 (fun K=>regK b K e st) (fun _ K=>regK b K e st):=by
  intro b e st
  cases e with
  | normal=>exact ad5.bz9 (X:=fun st K=>K .normal st) (Y:=fun st _ K=>K .normal st) (E.behind b st) (fun st=>ad5.self .normal st)
  | exit id=>exact ad5.self _ st
  | ret=>exact ad5.self _ st
  | pan v=>exact ad5.self _ st
 induction c with
 | skip=>exact fun st=>by simp only [af9,code];exact ad5.self .normal st
 | region id os d=>
  intro st
  simp only [af9,code]
  cases d with
  | true=>exact (drawnT_comes (P:=P) (H:=H) hm f os os.size (Array.replicate os.size false) st).bind (regK (H.br f id)) (fun _=>regK (H.br f id)) (hreg _)
  | false=>
   have:=(bu4 (P:=P) (H:=H) hm inr f os os.toList st).bind (regK (H.br f id)) (fun _=>regK (H.br f id)) (hreg _)
   intro K o h
   obtain ⟨L,a1,a2,n0,a3⟩:=this K o h
   refine ⟨L,a1,a2,n0,fun n hn K' o' hf=>?_⟩
   have:=a3 n hn K' o' hf
   have e:=ops_kp (P:=P) (H:=H) (rec:=recn n) (inr:=inr) (f:=f) (all:=os) (K:=regK (H.br f id) K' .normal) (KP:=regK (H.br f id) K') (KP':=K') (fun v st=>rfl) os.toList st
   exact e.symm.trans this
 | seq x y ihx ihy=>
  intro st
  simp only [af9,code]
  refine (ihx st).bind (fun K=>seqK (af9 P H rec inr f y K) K) (fun n K=>seqK (code P H (recn n) n inr f y K) K) fun e st=>?_
  cases e with
  | normal=>exact ihy st
  | exit id=>exact ad5.self _ st
  | ret=>exact ad5.self _ st
  | pan v=>exact ad5.self _ st
 | cond o x y ihx ihy=>
  intro st
  simp only [af9,code]
  cases (ev H st o).1 with
  | bool b=>
   cases b with
   | true=>exact ad5.bz9 _ ihx
   | false=>exact ad5.bz9 _ ihy
  | _=>exact ad5.none _
 | block id c ih=>
  intro st
  simp only [af9,code]
  refine (ih st).bind (aB9 id) (fun _=>aB9 id) fun e st=>?_
  cases e with
  | exit i=>
   simp only [aB9]
   cases i==id with
   | true=>exact ad5.self .normal st
   | false=>exact ad5.self _ st
  | normal=>exact ad5.self _ st
  | ret=>exact ad5.self _ st
  | pan v=>exact ad5.self _ st
 | loop c ih=>
  intro st K o h
  simp only [af9] at h
  obtain ⟨m0,hm0⟩:=bh0 h
  have key:∀(m:Nat) (st:St) (K:Cont) (o:Out),iter (af9 P H rec inr f c) m K st=some o ->
    ∃L,Fine L K o/\(∀K' o',Fine L K' o'->∀j,m<=j->iter (af9 P H rec inr f c) j K' st=some o')/\∃n0,∀n,n0<=n->∀K' o',Fine L K' o'->∀j,m<=j->iter (code P H (recn n) n inr f c) j K' st=some o':=by
   intro m
   induction m with
   | zero=>intro st K o h;simp [iter] at h
   | succ m ihm=>
    intro st K o h
    rw [iter] at h
    obtain ⟨L1,f1,h1,n1,h2⟩:=ih st _ o h
    obtain ⟨L,a1,a2,n0,a3⟩:=comb (I:={j:Nat // m<=j})
     (fun i K'=>(fun | .normal,st'=>iter (af9 P H rec inr f c) i.1 K' st' | e,st'=>K' e st':Cont))
     (fun n i K'=>(fun | .normal,st'=>iter (code P H (recn n) n inr f c) i.1 K' st' | e,st'=>K' e st':Cont)) K o L1 (fun p hp=>by
      have hf:=f1 p hp
      obtain ⟨e,st'⟩:=p
      cases e with
      | normal=>
       obtain ⟨L,b1,b2,n0,b3⟩:=ihm st' K o hf
       exact ⟨L,b1,fun K' o' hf i=>b2 K' o' hf i.1 i.2,n0,fun n hn K' o' hf i=>b3 n hn K' o' hf i.1 i.2⟩
      | exit id=>exact ⟨[(.exit id,st')],(fun q hq=>by simp at hq;subst hq;exact hf),fun K' o' hf _=>hf (.exit id,st') (by simp),0,fun _ _ K' o' hf _=>hf (.exit id,st') (by simp)⟩
      | ret=>exact ⟨[(.ret,st')],(fun q hq=>by simp at hq;subst hq;exact hf),fun K' o' hf _=>hf (.ret,st') (by simp),0,fun _ _ K' o' hf _=>hf (.ret,st') (by simp)⟩
      | pan v=>exact ⟨[(.pan v,st')],(fun q hq=>by simp at hq;subst hq;exact hf),fun K' o' hf _=>hf (.pan v,st') (by simp),0,fun _ _ K' o' hf _=>hf (.pan v,st') (by simp)⟩)
    refine ⟨L,a1,fun K' o' hf j hj=>?_,n0+n1,fun n hn K' o' hf j hj=>?_⟩
    ·obtain ⟨j,rfl⟩:∃i,j=i+1:=⟨j-1,by omega⟩
     rw [iter]
     exact h1 _ _ fun p hp=>a2 K' o' hf ⟨j,by omega⟩ p hp
    ·obtain ⟨j,rfl⟩:∃i,j=i+1:=⟨j-1,by omega⟩
     rw [iter]
     exact h2 n (by omega) _ _ fun p hp=>a3 n (by omega) K' o' hf ⟨j,by omega⟩ p hp
  obtain ⟨L,a1,a2,n0,a3⟩:=key m0 st K o (hm0 m0 (Nat.le_refl _))
  refine ⟨L,a1,fun K' o' hf=>?_,n0+m0,fun n hn K' o' hf=>?_⟩
  ·simp only [af9]
   exact bs9 m0 fun n hn=>a2 K' o' hf n hn
  ·simp only [code]
   exact a3 n (by omega) K' o' hf n (by omega)
 | exit id=>exact fun st=>by simp only [af9,code];exact ad5.self _ st
 | ret=>exact fun st=>by simp only [af9,code];exact ad5.self _ st
 | rangeFunc g ps _ cb _ _=>exact fun st=>by simp only [af9,code];exact rangeV_comes hm inr f g ps.toList _ st
 | scope _ _=>exact fun st=>by simp only [af9];exact ad5.none _
 | label _=>exact fun st=>by simp only [af9];exact ad5.none _
 | goto _=>exact fun st=>by simp only [af9];exact ad5.none _
 | refuse _=>exact fun st=>by simp only [af9];exact ad5.none _
theorem loopL_of {rec:Rec}{inr:Bool}{f:FuncId}{c:Code}{K:Cont}{st:St}{o:Out}(h:af9 P H rec inr f c (fun | .normal,st'=>bB1 (af9 P H rec inr f c) K st' | e,st'=>K e st') st=some o):bB1 (af9 P H rec inr f c) K st=some o:=by
 have hm:aM5 rec (fun _=>rec):=fun f args s o h=>⟨0,fun _ _=>h⟩
 obtain ⟨L,a1,a2,_⟩:=at8 (P:=P) (H:=H) hm inr f c st _ o h
 have key:∀L:List (Ex×St),Fine L (fun | .normal,st'=>bB1 (af9 P H rec inr f c) K st' | e,st'=>K e st') o->∃n0,∀n,n0<=n->Fine L (fun | .normal,st'=>iter (af9 P H rec inr f c) n K st' | e,st'=>K e st') o:=by
  intro L
  induction L with
  | nil=>exact fun _=>⟨0,fun n _ p hp=>by cases hp⟩
  | cons p L ih=>
   intro hf
   obtain ⟨n0,h0⟩:=ih fun q hq=>hf q (List.mem_cons_of_mem _ hq)
   have hp:=hf p (by simp)
   obtain ⟨e,st'⟩:=p
   cases e with
   | normal=>
    obtain ⟨n1,h1⟩:=bh0 hp
    exact ⟨n0+n1,fun n hn q hq=>by
     rcases List.mem_cons.1 hq with rfl | hq
     ·exact h1 n (by omega)
     ·exact h0 n (by omega) q hq⟩
   | _=>exact ⟨n0,fun n hn q hq=>by
     rcases List.mem_cons.1 hq with rfl | hq
     ·exact hp
     ·exact h0 n hn q hq⟩
 obtain ⟨n0,hn⟩:=key L a1
 refine bs9 (n0+1) fun n hle=>?_
 obtain ⟨n,rfl⟩:∃i,n=i+1:=⟨n-1,by omega⟩
 rw [iter]
 exact a2 _ _ (hn n (by omega))
end
end Go.Proofs.YtflhfchgdpbhcaaGreat.E
namespace Go.Proofs.YtflhfchgdpbhcaaGreat.E
open Go
section
variable (P:Program) (H:ae5) (G:FuncId->Option (List V->List O->Option Out))
noncomputable def run (f:FuncId)(args:List V)(s:List O):R:=Lim fun n=>call P H G n f args s
noncomputable def bD5 (rec:Rec):Rec:=fun f args s=>match P.funcs[f]? with
 | some fn=>match fn.body with
  | some c=>af9 P H rec false f c (aE8 P H f fn) (start (H.sites f) args fn.ntmps s)
  | none=>none
 | none=>none
noncomputable def ax9 (rec:Rec)(m:Option V):Rec:=fun f args s=>match recB P f with
 | some (fn,id,o,r,rest)=>(goD H f o.dst (recV m,.no) (start (H.sites f) args fn.ntmps s)).bind fun st=>(opsR P H f r st).bind fun st=>(behind (H.br f id) st).bind (af9 P H rec false f rest (aE8 P H f fn))
 | none=>bD5 P H rec f args s
noncomputable def bB7 (rec:Rec)(f:FuncId)(fn:Func):Cont:=leave P H (ax9 P H rec) f fn
end
section
variable {P:Program} {H:ae5} {G:FuncId->Option (List V->List O->Option Out)}
theorem aQ0 :aM5 (run P H G) (fun n=>call P H G n):=fun _ _ _ _ h=>bh0 h
theorem dcall_meets :aM5 (bD5 P H (run P H G)) (fun n=>bD6 P H (call P H G n) n):=by
 intro f args s o h
 unfold bD5 at h
 cases hf:P.funcs[f]? with
 | none=>rw [hf] at h;cases h
 | some fn=>
  rw [hf] at h
  simp only at h
  cases hb:fn.body with
  | none=>rw [hb] at h;cases h
  | some c=>
   rw [hb] at h
   obtain ⟨L,a1,a2,n0,a3⟩:=at8 (P:=P) (H:=H) (aQ0 (G:=G)) false f c (start (H.sites f) args fn.ntmps s) _ o h
   refine ⟨n0,fun n hn=>?_⟩
   show bD6 P H (call P H G n) n f args s=some o
   unfold bD6
   rw [hf]
   simp only [hb]
   exact a3 n hn _ _ a1
theorem dcallM_meets (m:Option V):aM5 (ax9 P H (run P H G) m) (fun n=>aN6 P H (call P H G n) n m):=by
 intro f args s o h
 unfold ax9 at h
 cases hr:recB P f with
 | none=>
  rw [hr] at h
  obtain ⟨n0,hn⟩:=dcall_meets (P:=P) (H:=H) (G:=G) f args s o h
  refine ⟨n0,fun n hle=>?_⟩
  show aN6 P H (call P H G n) n m f args s=some o
  unfold aN6
  rw [hr]
  exact hn n hle
 | some q=>
  obtain ⟨fn,id,x,r,rest⟩:=q
  rw [hr] at h
  simp only at h
  obtain ⟨st1,g1,hA⟩:=Option.bind_eq_some_iff.1 h
  obtain ⟨st2,g2,hB⟩:=Option.bind_eq_some_iff.1 hA
  obtain ⟨st3,g3,hC⟩:=Option.bind_eq_some_iff.1 hB
  obtain ⟨L,a1,a2,n0,a3⟩:=at8 (P:=P) (H:=H) (aQ0 (G:=G)) false f rest st3 _ o hC
  refine ⟨n0,fun n hn=>?_⟩
  show aN6 P H (call P H G n) n m f args s=some o
  unfold aN6
  rw [hr]
  simp only [g1,Option.bind_some,g2,g3]
  exact a3 n hn _ _ a1
theorem aD6 {D:Option V->Rec}{Dn:Nat->Option V->Rec}(hD:∀m,aM5 (D m) (fun n=>Dn n m))(K:Option V->St->R)(o:Out):∀(ds:List (FuncId×List V)) (m:Option V) (st:St),drain P H D ds m st K=some o->∃n0,∀n,n0<=n->drain P H (Dn n) ds m st K=some o
 | [],m,st,h=>⟨0,fun n _=>h⟩
 | d::ds,m,st,h=>by
  rw [drain] at h
  cases hmk:aY8 d with
  | true=>
   rw [hmk] at h
   obtain ⟨n1,h2⟩:=aD6 hD K o ds m _ h
   exact ⟨n1,fun n hn=>by rw [drain,hmk];exact h2 n hn⟩
  | false=>
  rw [hmk] at h
  simp only [cond_false] at h
  have q:=aa1 h
  clear h
  obtain ⟨h1,h⟩:=q
  obtain ⟨out,ho,h⟩:=Option.bind_eq_some_iff.1 h
  obtain ⟨n0,h0⟩:=hD m _ _ _ _ ho
  cases out with
  | pan v s=>cases h
  | ret vs s=>
   obtain ⟨n1,h2⟩:=aD6 hD K o ds _ _ h
   refine ⟨n0+n1,fun n hn=>?_⟩
   rw [drain,hmk]
   simp only [cond_false,ck,h1,cond_true]
   rw [show Dn n m d.1 d.2 st.s=_ from h0 n (by omega)]
   exact h2 n (by omega)
theorem leave_meets {D:Option V->Rec}{Dn:Nat->Option V->Rec}(hD:∀m,aM5 (D m) (fun n=>Dn n m))(f:FuncId)(fn:Func)(e:Ex)(st:St)(o:Out)(h:leave P H D f fn e st=some o):∃n0,∀n,n0<=n->leave P H (Dn n) f fn e st=some o:=by
 unfold leave at h ⊢
 cases e with
 | normal=>exact aD6 hD _ o _ _ _ h
 | ret=>exact aD6 hD _ o _ _ _ h
 | pan v=>exact aD6 hD _ o _ _ _ h
 | exit id=>cases h
theorem run_of {f:FuncId}{fn:Func}{c:Code}(hG:G f=none)(hf:P.funcs[f]? =some fn)(hb:fn.body=some c){args:List V}{s:List O}{o:Out}
  (h:af9 P H (run P H G) false f c (bB7 P H (run P H G) f fn) (start (H.sites f) args fn.ntmps s)=some o):run P H G f args s=some o:=by
 obtain ⟨L,a1,a2,n0,a3⟩:=at8 (P:=P) (H:=H) (aQ0 (G:=G)) false f c (start (H.sites f) args fn.ntmps s) _ o h
 have key:∀L:List (Ex×St),Fine L (bB7 P H (run P H G) f fn) o->∃n0,∀n,n0<=n->Fine L (leave P H (aN6 P H (call P H G n) n) f fn) o:=by
  intro L
  induction L with
  | nil=>exact fun _=>⟨0,fun n _ p hp=>by cases hp⟩
  | cons p L ih=>
   intro hfine
   obtain ⟨n0,h0⟩:=ih fun q hq=>hfine q (List.mem_cons_of_mem _ hq)
   obtain ⟨n1,h1⟩:=leave_meets (P:=P) (H:=H) (Dn:=fun n=>aN6 P H (call P H G n) n) (dcallM_meets (G:=G)) f fn p.1 p.2 o (hfine p (by simp))
   exact ⟨n0+n1,fun n hn q hq=>by
    rcases List.mem_cons.1 hq with rfl | hq
    ·exact h1 n (by omega)
    ·exact h0 n (by omega) q hq⟩
 obtain ⟨n1,h1⟩:=key L a1
 refine bs9 (n0+n1+1) fun n hn=>?_
 obtain ⟨n,rfl⟩:∃i,n=i+1:=⟨n-1,by omega⟩
 rw [call,hG]
 simp only [hf,hb]
 exact a3 n (by omega) _ _ (h1 n (by omega))
noncomputable def bf4 (P:Program)(H:ae5)(rec:Rec)(f:FuncId)(id:Nat)(cb:Code):Cont:=fun
 | .normal,st=>begK st.s id fun s=>af9 P H rec true f cb (bh7 id) {st with s:=s}
 | _,_=>none
noncomputable def callYT (P:Program)(H:ae5)(rec:Rec)(id:Nat)(args:List V)(s:List O):Option Out:=match s[id]? with
 | some (.loop f ps t _ _)=>(aB6 ps (rfs (ay1 P f))).bind fun cc=>ck (Nat.beq ps.length args.length) (af9 P H rec true f cc.1 (bf4 P H rec f id cc.2) (aG0 (H.sites f) (bc3 ps args t) s))
 | _=>none
theorem beginYT_comes {rec:Rec}{recn:Nat->Rec}(hm:aM5 rec recn)(f:FuncId)(id:Nat)(cb:Code)(e:Ex)(st:St)(o:Out)(h:bf4 P H rec f id cb e st=some o):∃n0,∀n,n0<=n->bs6 P H (recn n) n f id cb e st=some o:=by
 cases e with
 | normal=>
  unfold bf4 begK at h
  unfold bs6 begK
  simp only at h ⊢
  split at h
  ·rename_i f' ps t q p hs
   have hck:=aa1 h
   clear h
   obtain ⟨c1,h⟩:=hck
   obtain ⟨L,a1,a2,n0,a3⟩:=at8 (P:=P) (H:=H) hm true f cb _ _ o h
   exact ⟨n0,fun n hn=>by simp only [ck,c1,cond_true];exact a3 n hn _ _ a1⟩
  ·cases h
 | _=>cases h
theorem run_yld {id:Nat}(hG:G (P.funcs.size+id)=none){args:List V}{s:List O}{o:Out}(h:callYT P H (run P H G) id args s=some o):run P H G (P.funcs.size+id) args s=some o:=by
 unfold callYT at h
 split at h
 ·rename_i f ps t q p hs
  obtain ⟨cc,hcc,h⟩:=Option.bind_eq_some_iff.1 h
  have hck:=aa1 h
  clear h
  obtain ⟨c1,h⟩:=hck
  obtain ⟨L,a1,a2,n0,a3⟩:=at8 (P:=P) (H:=H) (aQ0 (G:=G)) true f cc.1 _ _ o h
  have key:∀L:List (Ex×St),Fine L (bf4 P H (run P H G) f id cc.2) o->∃n0,∀n,n0<=n->Fine L (bs6 P H (call P H G n) n f id cc.2) o:=by
   intro L
   induction L with
   | nil=>exact fun _=>⟨0,fun n _ p hp=>by cases hp⟩
   | cons p L ih=>
    intro hfine
    obtain ⟨n0,h0⟩:=ih fun q hq=>hfine q (List.mem_cons_of_mem _ hq)
    obtain ⟨n1,h1⟩:=beginYT_comes (P:=P) (H:=H) (aQ0 (G:=G)) f id cc.2 p.1 p.2 o (hfine p (by simp))
    exact ⟨n0+n1,fun n hn q hq=>by
     rcases List.mem_cons.1 hq with rfl | hq
     ·exact h1 n (by omega)
     ·exact h0 n (by omega) q hq⟩
  obtain ⟨n1,h1⟩:=key L a1
  refine bs9 (n0+n1+1) fun n hn=>?_
  obtain ⟨n,rfl⟩:∃i,n=i+1:=⟨n-1,by omega⟩
  rw [call,hG]
  simp only [Array.getElem?_eq_none (Nat.le_add_right P.funcs.size id)]
  rw [show P.funcs.size+id-P.funcs.size=id by omega]
  unfold callY
  simp only [hs,hcc,Option.bind_some,ck,c1,cond_true]
  exact a3 n (by omega) _ _ (h1 n (by omega))
 ·cases h
theorem run_rec (hH:HOk P H)(hG:∀f g,G f=some g->bF6 P H f g)(hGs:∀f g,G f=some g->f<P.funcs.size):aS2 P H (run P H G):=⟨fun f hf args s o h=>by
 obtain ⟨n,hn⟩:=bh0 h
 exact (bE2 hH G hG hGs n).fn f hf args s o (hn n (Nat.le_refl _)),fun id args s o h=>by
 obtain ⟨n,hn⟩:=bh0 h
 exact (bE2 hH G hG hGs n).yld id args s o (hn n (Nat.le_refl _))⟩
end
end Go.Proofs.YtflhfchgdpbhcaaGreat.E
namespace Go.Proofs.YtflhfchgdpbhcaaGreat.E
open Go
def retK (vs:List V)(s:List O):R:=ck (vs.all aQ1) (some (.ret vs s))
section
variable (P:Program) (H:ae5)
def resK (f:FuncId)(st:St):List ResultVar->(List V->R)->R
 | [],K=>K []
 | .tmp t::r,K=>resK f st r fun vs=>K ((st.t.getD t (.undef,.no)).1::vs)
 | .cell a t::r,K=>be4 P (bh1 H) f 0 t (st.t.getD a (.undef,.no)).1 st fun q=>resK f st r fun vs=>K (q.1.1::vs)
def aA1 (f:FuncId)(fn:Func):Cont:=fun
 | .normal,st | .ret,st=>ck st.d.isEmpty<|ck (!(H.own f).headD false)<|resK P H f st fn.results.toList fun vs=>retK vs st.s
 | .pan v,st=>ck (st.d.isEmpty&&aQ1 v) (some (.pan v st.s))
 | _,_=>none
noncomputable def aP3 (rec:Rec)(f:FuncId)(fn:Func):Cont:=fun
 | .normal,st | .ret,st=>drain P H (ax9 P H rec) st.d none st (fun m st=>aA1 P H f fn (exOf m) st)
 | .pan v,st=>drain P H (ax9 P H rec) st.d (some v) st (fun m st=>aA1 P H f fn (exOf m) st)
 | _,_=>none
noncomputable def atT (rec:Rec)(inr:Bool)(f:FuncId):List Nat->Code->Cont->Code×Cont
 | 0::p,.seq x y,K=>atT rec inr f p x (seqK (af9 P H rec inr f y K) K)
 | 1::p,.seq _ y,K=>atT rec inr f p y K
 | 0::p,.cond _ x _,K=>atT rec inr f p x K
 | 1::p,.cond _ _ y,K=>atT rec inr f p y K
 | 0::p,.block id c,K=>atT rec inr f p c (aB9 id K)
 | 0::p,.loop c,K=>atT rec inr f p c (fun | .normal,st'=>bB1 (af9 P H rec inr f c) K st' | e,st'=>K e st')
 | [],c,K=>(c,K)
 | _,_,K=>(.skip,K)
noncomputable def exitAt (rec:Rec)(f:FuncId)(p:List Nat)(st:St):R:=match P.funcs[f]? with
 | some fn=>match fn.body with
  | some c=>(atT P H rec false f p c (aP3 P H rec f fn)).2 .normal st
  | none=>none
 | none=>none
def br3 :Code->Bool | .loop _=>true | _=>false
end
section
variable {P:Program} {H:ae5} {G:FuncId->Option (List V->List O->Option Out)}
theorem resK_s (f:FuncId)(st:St):∀(l:List ResultVar) (K:List V->R) (o:Out),resK P H f st l K=some o->∃vs,resV P H f st l=some vs/\K (vs.map (·.1))=some o
 | [],K,o,h=>⟨[],rfl,h⟩
 | .tmp t::r,K,o,h=>by
  simp only [resK] at h
  obtain ⟨vs,h1,h2⟩:=resK_s f st r _ o h
  exact ⟨st.t.getD t (.undef,.no)::vs,by simp only [resV,h1,Option.map_some],by simp only [List.map_cons];exact h2⟩
 | .cell a t::r,K,o,h=>by
  simp only [resK] at h
  obtain ⟨q,e1,e2⟩:=loadK_s (P:=P) (H:=bh1 H) f 0 t _ st _ o h
  rw [e2] at h
  obtain ⟨vs,h1,h2⟩:=resK_s f st r _ o h
  exact ⟨q.1::vs,by simp only [resV,e1,Option.bind_some,h1,Option.map_some],by simp only [List.map_cons];exact h2⟩
theorem aS7 {f:FuncId}{fn:Func}{e:Ex}{st:St}{o:Out}(h:aA1 P H f fn e st=some o):aE8 P H f fn e st=some o:=by
 have key:(ck st.d.isEmpty<|ck (!(H.own f).headD false)<|resK P H f st fn.results.toList fun vs=>retK vs st.s)=some o->(ck st.d.isEmpty<|(resV P H f st fn.results.toList).bind fun vs=>
   ck (vs.all (fun v=>aQ1 v.1)&&(!((H.own f).headD false&&vs.length==1)||vs.all (ownOk st.l))) (some (.ret (vs.map (·.1)) st.s)))=some o:=by
  intro h
  obtain ⟨h1,h⟩:=aa1 h
  obtain ⟨h2,h⟩:=aa1 h
  obtain ⟨vs,h3,h4⟩:=resK_s f st _ _ o h
  unfold retK at h4
  obtain ⟨h5,h6⟩:=aa1 h4
  have h2:(H.own f).headD false=false:=by simpa using h2
  have h5':vs.all (fun v=>aQ1 v.1)=true:=by rw [List.all_map] at h5;exact h5
  simp only [ck,h1,cond_true,h3,Option.bind_some,h5',h2,Bool.false_and,Bool.not_false,Bool.true_or,Bool.and_self]
  exact h6
 cases e with
 | normal=>exact key h
 | ret=>exact key h
 | pan v=>exact h
 | exit id=>cases h
theorem aW3 {D:Option V->Rec}{K K':Option V->St->R}{o:Out}(hK:∀m st,K m st=some o->K' m st=some o):∀(ds:List (FuncId×List V)) (m:Option V) (st:St),drain P H D ds m st K=some o->drain P H D ds m st K'=some o
 | [],m,st,h=>hK _ _ h
 | d::ds,m,st,h=>by
  rw [drain] at h ⊢
  cases hmk:aY8 d with
  | true=>rw [hmk] at h;exact aW3 hK ds m _ h
  | false=>
  rw [hmk] at h
  simp only [cond_false] at h ⊢
  have q:=aa1 h
  clear h
  obtain ⟨h1,h⟩:=q
  obtain ⟨out,ho,h⟩:=Option.bind_eq_some_iff.1 h
  simp only [ck,h1,cond_true,ho,Option.bind_some]
  cases out with
  | pan v s=>cases h
  | ret vs s=>exact aW3 hK ds _ _ h
theorem leaveTK_le {rec:Rec}{f:FuncId}{fn:Func}{e:Ex}{st:St}{o:Out}(h:aP3 P H rec f fn e st=some o):bB7 P H rec f fn e st=some o:=by
 unfold bB7 leave
 unfold aP3 at h
 cases e with
 | normal=>exact aW3 (fun m st h=>aS7 h) _ _ _ h
 | ret=>exact aW3 (fun m st h=>aS7 h) _ _ _ h
 | pan v=>exact aW3 (fun m st h=>aS7 h) _ _ _ h
 | exit id=>cases h
theorem aW7 {rec:Rec}{inr:Bool}{f:FuncId}{c:Code}{K K':Cont}{st:St}{o:Out}(hK:∀e st,K e st=some o->K' e st=some o)(h:af9 P H rec inr f c K st=some o):af9 P H rec inr f c K' st=some o:=by
 have hm:aM5 rec (fun _=>rec):=fun f args s o h=>⟨0,fun _ _=>h⟩
 obtain ⟨L,a1,a2,_⟩:=at8 (P:=P) (H:=H) hm inr f c st K o h
 exact a2 K' o fun p hp=>hK _ _ (a1 p hp)
end
def mkT (n:Nat)(l:List (Nat×V×Tag)):List (V×Tag):=l.foldl (fun t p=>t.set p.1 p.2) (List.replicate n (.undef,.no))
def mkA (n:Nat)(l:List (Nat×List (V×Tag))):List (List (V×Tag)):=l.foldl (fun t p=>t.set p.1 p.2) (List.replicate n [])
def retR (vs:List V)(s:List O):R:=some (.ret vs s)
def panK (v:V)(s:List O):R:=ck (aQ1 v) (some (.pan v s))
def callPn (n:Nat)(x:R)(K:V->R)(KP:V->R):R:=bp3 x (fun vs=>aP0 n vs fun l=>K (one l)) KP
def callSn (n:Nat)(x:R)(K:V->List O->R)(KP:V->List O->R):R:=ba9 x (fun vs s=>aP0 n vs fun l=>K (one l) s) KP
def callP1 :=callPn 1
def aH8 :=callPn 2
def callS0 :=callSn 0
def callS1 :=callSn 1
def apK (es xs:List V)(b:Nat)(K:R):R:=ck (Nat.ble ((es.length+xs.length)*b) 140737488355328&&Nat.ble (es.length+xs.length) 140737488355328) K
def drK (x:R)(K:List O->R):R:=x.bind fun | .ret _ s=>K s | .pan _ _=>none
def cmpS (a b:ByteArray):Int:=if Op.bytesLess a.toList b.toList then -1 else if a.toList=b.toList then 0 else 1
def lk {α:Type}(d:α):List (Nat×α)->Nat->α
 | [],_=>d
 | (k,v)::r,n=>bif Nat.beq k n then v else lk d r n
def lk2 {α:Type}(d:α)(l:List (Nat×List (Nat×α)))(f i:Nat):α:=lk d (lk [] l f) i
def lkM (l:List (Nat×String×Nat))(t:Nat)(m:String):Option Nat:=match l with
 | []=>none
 | (k,n,g)::r=>bif Nat.beq k t&&decide (n=m) then some g else lkM r t m
theorem lk_mem {α:Type}{d:α}:∀{l:List (Nat×α)} {n:Nat} {v:α},lk d l n=v->v≠d->(n,v)∈l
 | [],n,v,h,hne=>absurd h.symm hne
 | (k,u)::r,n,v,h,hne=>by
  simp only [lk] at h
  cases hb:Nat.beq k n with
  | true=>rw [hb] at h;simp only [cond_true] at h;have hb:=Nat.eq_of_beq_eq_true hb;subst hb;subst h;exact List.mem_cons_self
  | false=>rw [hb] at h;exact List.mem_cons_of_mem _ (lk_mem h hne)
theorem callFunc_enter {P:Program}{g:FuncId}(h:(match P.funcs[g]? with | some fn=>fn.body.isSome&&!(fn.name== "runtime.NumGoroutine") | none=>false)=true)(args:Array Value)(w:World):(callFunc g args).run P w=.ok (.enter g args) w:=by
 unfold callFunc
 refine (ab0 (w1:=w) (r:=P) rfl).trans ?_
 cases hf:P.funcs[g]? with
 | none=>rw [hf] at h;cases h
 | some fn=>
  rw [hf] at h
  simp only [Bool.and_eq_true,Bool.not_eq_true'] at h
  obtain ⟨h1,h2⟩:=h
  simp only [h2,Bool.false_eq_true,if_false]
  cases hb:fn.body with
  | none=>rw [hb] at h1;cases h1
  | some c=>simp only [Option.isNone_some,Bool.false_eq_true,if_false];rfl
theorem ok_of {P:Program}{l:List (Nat×Bool)}(h:(l.all fun p=>match P.funcs[p.1]? with | some fn=>fn.body.isSome&&!(fn.name== "runtime.NumGoroutine") | none=>false)=true)(g:FuncId)(hg:lk false l g=true)(args:Array Value)(w:World):(callFunc g args).run P w=.ok (.enter g args) w:=
 callFunc_enter (List.all_eq_true.1 h _ (lk_mem hg (by simp))) args w
end Go.Proofs.YtflhfchgdpbhcaaGreat.E
