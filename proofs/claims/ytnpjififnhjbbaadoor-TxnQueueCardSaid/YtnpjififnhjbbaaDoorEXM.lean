/- It is proved that a printed text over an evaluator of calls that says no more than the run says no more than the run. No condition beyond the lemmas' own. -/
import Derived.Test.YtnpjififnhjbbaaDoorEXK
namespace Go.Proofs.YtnpjififnhjbbaaDoor.E
open Go
section
variable {P:Program} {H:ae2}
theorem callP_up {x x':R}(hx:OLe x x'){K K':List V->R}{KP KP':V->R}(hK:∀v,OLe (K v) (K' v))(hP:∀v,OLe (KP v) (KP' v)):OLe (bg6 x K KP) (bg6 x' K' KP'):=by
 intro o h
 cases x with
 | none=>cases h
 | some a=>
  rw [hx a rfl]
  cases a with
  | ret vs s=>exact OLe.ck _ (hK _) o h
  | pan v s=>exact OLe.ck _ (hP _) o h
theorem callS_up {x x':R}(hx:OLe x x'){K K' KP':List V->List O->R}{KP KP':V->List O->R}(hK:∀v s,OLe (K v s) (K' v s))(hP:∀v s,OLe (KP v s) (KP' v s)):OLe (aU1 x K KP) (aU1 x' K' KP'):=by
 intro o h
 cases x with
 | none=>cases h
 | some a=>
  rw [hx a rfl]
  cases a with
  | ret vs s=>exact hK _ _ o h
  | pan v s=>exact hP _ _ o h
theorem bj4 :∀(n:Nat) (vs:List V) {K K':List V->R},(∀l,OLe (K l) (K' l))->OLe (aG1 n vs K) (aG1 n vs K')
 | 0,[],_,_,h=>h _
 | 0,_::_,_,_,_=>OLe.none _
 | _+1,[],_,_,_=>OLe.none _
 | n+1,_::r,_,_,h=>bj4 n r fun l=>h _
theorem aa9.up {α:Type}{x:Option α}{X:(α->R)->R}(h:aa9 x X){K K':α->R}(hK:∀a,OLe (K a) (K' a)):OLe (X K) (X K'):=fun o e=>by
 obtain ⟨r,_,h2⟩:=h K o e
 rw [h2] at e ⊢
 exact hK _ _ e
theorem aP4 {f:FuncId}{dst:Option Nat}{v:V×Tag}{K K':St->R}(hK:SLe K K')(st:St):OLe (ax3 H f dst v K st) (ax3 H f dst v K' st):=by
 rw [at6,at6]
 exact goOn_up hK st
theorem bm7 {rec rec':Rec}(hr:Up rec rec')(g:FuncId)(args:List V)(s:List O){K K':V->List O->R}{KP KP':V->List O->R}(hK:∀v s,OLe (K v s) (K' v s))(hP:∀v s,OLe (KP v s) (KP' v s)):
  OLe (ay7 P H rec g args s K KP) (ay7 P H rec' g args s K' KP'):=by
 unfold ay7
 cases H.ext g with
 | some e=>exact OLe.ck _ (OLe.bind (OLe.rfl' _) fun v=>hK _ _)
 | none=>exact OLe.ck _ (OLe.ck _ (OLe.cond _ (OLe.ck _ (callP_up (hr _ _ _) (fun vs=>bj4 _ _ fun l=>hK _ _) (fun v=>hP _ _))) (callS_up (KP':=fun _ _=>none) (hr _ _ _) (fun vs s=>bj4 _ _ fun l=>hK _ _) hP)))
theorem callF_up {rec rec':Rec}(hr:Up rec rec')(x:V)(args:List V)(s:List O){K K':V->List O->R}{KP KP':V->List O->R}(hK:∀v s,OLe (K v s) (K' v s))(hP:∀v s,OLe (KP v s) (KP' v s)):
  OLe (aH3 P H rec x args s K KP) (aH3 P H rec' x args s K' KP'):=by
 cases x with
 | func fn a b=>
  cases fn with
  | func g=>exact OLe.ck _ (bm7 hr _ _ _ hK hP)
  | _=>exact OLe.none _
 | yld id=>exact OLe.ck _ (callS_up (KP':=fun _ _=>none) (hr _ _ _) (fun vs s=>hK _ _) (fun _ _=>OLe.none _))
 | _=>exact OLe.none _
theorem callI_up {rec rec':Rec}(hr:Up rec rec')(x:V)(m:String)(args:List V)(s:List O){K K':V->List O->R}{KP KP':V->List O->R}(hK:∀v s,OLe (K v s) (K' v s))(hP:∀v s,OLe (KP v s) (KP' v s)):
  OLe (bg7 P H rec x m args s K KP) (bg7 P H rec' x m args s K' KP'):=by
 cases x with
 | iface t v=>
  simp only [bg7]
  cases H.meth t m with
  | none=>exact OLe.none _
  | some g=>exact OLe.ck _ (bm7 hr _ _ _ hK hP)
 | _=>exact OLe.none _
theorem callT_up {rec rec':Rec}(hr:Up rec rec')(f:FuncId)(c:Call)(dst:Option Nat)(st:St){K K':St->R}{KP KP':V->List O->R}(hK:SLe K K')(hP:∀v s,OLe (KP v s) (KP' v s)):
  OLe (bc5 P H rec f c dst st K KP) (bc5 P H rec' f c dst st K' KP'):=by
 have key:∀v s,OLe (ax3 H f dst (v,.no) K {st with s:=s}) (ax3 H f dst (v,.no) K' {st with s:=s}):=fun v s=>aP4 hK _
 unfold bc5
 split
 ·exact OLe.none _
 ·exact bm7 hr _ _ _ (fun v s=>OLe.cond _ (aP4 hK _) (aP4 hK _)) hP
 ·exact callF_up hr _ _ _ key hP
 ·exact callI_up hr _ _ _ _ key hP
theorem aW6 {rec rec':Rec}(hr:Up rec rec'){inr:Bool}{f:FuncId}{o:Oper}{K K':St->R}{KP KP':Cont}(hK:SLe K K')(hP:CLe KP KP')(st:St):
  OLe (stepT P H rec inr f o K KP st) (stepT P H rec' inr f o K' KP' st):=by
 unfold stepT
 cases o.op with
 | call c=>
  simp only
  cases c.callee with
  | builtin b=>exact aa9.up (opKG_s _ _ _ _) fun a=>aP4 hK _
  | _=>exact callT_up hr _ _ _ _ hK fun v s=>hP _ _
 | defer c=>exact OLe.ck _ (OLe.bind (OLe.rfl' _) fun g=>OLe.ck _ (hK _))
 | panic x=>
  simp only
  cases (ev H st x).1 with
  | iface t v=>exact hP _ _
  | _=>exact OLe.none _
 | _=>exact OLe.ck _ (aa9.up (opKG_s _ _ _ _) fun a=>aP4 hK _)
theorem bv6 {rec rec':Rec}(hr:Up rec rec'){inr:Bool}{f:FuncId}{all:Array Oper}{K K':St->R}{KP KP':Cont}(hK:SLe K K')(hP:CLe KP KP'):∀l,SLe (opsT P H rec inr f all K KP l) (opsT P H rec' inr f all K' KP' l)
 | [],st=>by simp only [opsT];exact hK st
 | o::r,st=>by
  have ih:SLe (opsT P H rec inr f all K KP r) (opsT P H rec' inr f all K' KP' r):=bv6 hr hK hP r
  simp only [opsT]
  split
  ·exact aW6 hr ih hP st
  ·split
   ·exact OLe.none _
   ·split
    ·exact OLe.cond _ (OLe.cond _ (aW6 hr ih hP _) (ih _)) (OLe.cond _ (ih _) (aW6 hr ih hP _))
    ·exact ih _
    ·exact OLe.none _
theorem aZ8 {rec rec':Rec}(hr:Up rec rec'){f:FuncId}{o:Oper}(st:St){K K':St->R}(hK:SLe K K'):OLe (aB8 P H rec f o st K) (aB8 P H rec' f o st K'):=by
 unfold aB8
 split
 ·exact OLe.none _
 ·exact OLe.none _
 ·exact aW6 hr hK (fun _ _=>OLe.none _) st
theorem opDT_up {rec rec':Rec}(hr:Up rec rec'){f:FuncId}{all:Array Oper}(i:Nat)(st:St){K K':St->R}(hK:SLe K K'):OLe (opDT P H rec f all i st K) (opDT P H rec' f all i st K'):=by
 unfold opDT
 split
 ·exact OLe.none _
 ·split
  ·exact aZ8 hr _ hK
  ·split
   ·exact OLe.none _
   ·split
    ·exact OLe.cond _ (OLe.cond _ (aZ8 hr _ hK) (hK _)) (OLe.cond _ (hK _) (aZ8 hr _ hK))
    ·exact hK _
    ·exact OLe.none _
theorem aS6 {rec rec':Rec}(hr:Up rec rec'){f:FuncId}{os:Array Oper}{K K':St->R}(hK:SLe K K'):∀(n:Nat) (S:Array Bool),SLe (au6 P H rec f os K n S) (au6 P H rec' f os K' n S)
 | 0,S,st=>by simp only [au6];exact OLe.ck _ (hK st)
 | n+1,S,st=>by
  simp only [au6]
  split
  ·exact hK st
  ·split
   ·exact opDT_up hr _ _ (aS6 hr hK n _)
   ·exact allOf_up _ fun i=>opDT_up hr _ _ (aS6 hr hK n _)
theorem Lim_up {F F':Nat->R}(h:∀n,OLe (F n) (F' n)):OLe (Lim F) (Lim F'):=fun o e=>by
 obtain ⟨n0,hn⟩:=ba8 e
 exact bn4 n0 fun n hle=>h n o (hn n hle)
theorem codeT_up {rec rec':Rec}(hr:Up rec rec'){inr:Bool}{f:FuncId}:∀(c:Code) (K K':Cont),CLe K K'->SLe (ag5 P H rec inr f c K) (ag5 P H rec' inr f c K'):=by
 intro c
 induction c with
 | skip=>intro K K' hK st;simp only [ag5];exact hK _ _
 | region id os d=>
  intro K K' hK st
  simp only [ag5]
  have hb:CLe (regK (H.br f id) K) (regK (H.br f id) K'):=by
   intro e st
   cases e with
   | normal=>exact OLe.bind (OLe.rfl' _) (hK _)
   | _=>exact hK _ _
  exact OLe.cond _ (aS6 hr (hb _) _ _ _) (bv6 hr (hb _) hb _ _)
 | seq x y ihx ihy=>
  intro K K' hK st
  simp only [ag5]
  refine ihx _ _ ?_ st
  intro e st
  cases e with
  | normal=>exact ihy _ _ hK st
  | exit i=>exact hK _ _
  | ret=>exact hK _ _
  | pan v=>exact hK _ _
 | cond t x y ihx ihy=>
  intro K K' hK st
  simp only [ag5]
  split
  ·exact OLe.cond _ (OLe.bind (OLe.rfl' _) (ihx _ _ hK)) (OLe.bind (OLe.rfl' _) (ihy _ _ hK))
  ·exact OLe.none _
 | block id c ih=>
  intro K K' hK st
  simp only [ag5]
  refine ih _ _ ?_ st
  intro e st
  cases e with
  | exit i=>exact OLe.cond _ (hK _ _) (hK _ _)
  | normal=>exact hK _ _
  | ret=>exact hK _ _
  | pan v=>exact hK _ _
 | loop c ih=>intro K K' hK st;simp only [ag5];exact Lim_up fun n=>iter_up ih hK (Nat.le_refl _) st
 | exit id=>intro K K' hK st;simp only [ag5];exact hK _ _
 | ret=>intro K K' hK st;simp only [ag5];exact hK _ _
 | rangeFunc g ps ca cb _ _=>intro K K' hK st;simp only [ag5];exact rangeV_up hr hK st
 | _=>intro K K' hK st;simp only [ag5];exact OLe.none _
theorem aA0 (j:Bool){x x':St->R}(hx:SLe x x'){K K':Cont}(hK:CLe K K'):CLe (cutK j x K) (cutK j x' K'):=by
 intro e st
 cases e with
 | normal=>exact OLe.cond _ (hx st) (hK _ _)
 | _=>exact hK _ _
theorem bu0 {x x':St->R}(hx:SLe x x'){K K':Cont}(hK:CLe K K'):CLe (ba5 x K) (ba5 x' K'):=by
 intro e st
 cases e with
 | normal=>exact hx st
 | _=>exact hK _ _
theorem bA6 (id:Nat){K K':Cont}(hK:CLe K K'):CLe (ay8 id K) (ay8 id K'):=by
 intro e st
 cases e with
 | exit i=>exact OLe.cond _ (hK _ _) (hK _ _)
 | _=>exact hK _ _
theorem seqK_up {y y':St->R}(hy:SLe y y'){K K':Cont}(hK:CLe K K'):CLe (seqK y K) (seqK y' K'):=by
 intro e st
 cases e with
 | normal=>exact hy st
 | _=>exact hK _ _
theorem bm3 {rec rec':Rec}(hr:Up rec rec'){inr:Bool}{f:FuncId}{J:List Nat->Bool}{X X':List Nat->St->R}(hX:∀p,SLe (X p) (X' p)):∀(c:Code) (p:List Nat) (K K':Cont),CLe K K'->SLe (av3 P H rec inr f J X p c K) (av3 P H rec' inr f J X' p c K'):=by
 intro c
 induction c with
 | seq x y ihx ihy=>intro p K K' hK st;simp only [av3];exact ihx _ _ _ (seqK_up (ihy _ _ _ hK) hK) st
 | cond t x y ihx ihy=>
  intro p K K' hK st
  simp only [av3,aW1]
  split
  ·exact OLe.cond _ (OLe.bind (OLe.rfl' _) (ihx _ _ _ (aA0 _ (hX p) hK))) (OLe.bind (OLe.rfl' _) (ihy _ _ _ (aA0 _ (hX p) hK)))
  ·exact OLe.none _
 | block id c ih=>intro p K K' hK st;simp only [av3];exact ih _ _ _ (bA6 _ (aA0 _ (hX p) hK)) st
 | loop c _=>intro p K K' hK st;simp only [av3];exact hX p st
 | region id os d=>
  intro p K K' hK st
  simp only [av3,regKX_eq,bq9]
  have hb:CLe (regK (H.br f id) (cutK (J p) (X p) K)) (regK (H.br f id) (cutK (J p) (X' p) K')):=by
   intro e st
   cases e with
   | normal=>exact OLe.bind (OLe.rfl' _) (aA0 _ (hX p) hK _)
   | exit i=>exact aA0 (J p) (hX p) hK (.exit i) st
   | ret=>exact aA0 (J p) (hX p) hK .ret st
   | pan v=>exact aA0 (J p) (hX p) hK (.pan v) st
  exact OLe.cond _ (aS6 hr (hb _) _ _ _) (bv6 hr (hb _) hb _ _)
 | _=>intro p K K' hK st;simp only [av3];exact codeT_up hr _ _ _ hK st
theorem atX_up {rec rec':Rec}(hr:Up rec rec'){inr:Bool}{f:FuncId}{J:List Nat->Bool}{X X':List Nat->St->R}(hX:∀p,SLe (X p) (X' p)):∀(q p:List Nat) (c:Code) (K K':Cont),CLe K K' ->
  (atX P H rec inr f J X p q c K).1=(atX P H rec' inr f J X' p q c K').1/\CLe (atX P H rec inr f J X p q c K).2 (atX P H rec' inr f J X' p q c K').2:=by
 intro q
 induction q with
 | nil=>intro p c K K' hK;cases c<;>exact ⟨rfl,hK⟩
 | cons i q ih=>
  intro p c K K' hK
  have bad:CLe (fun _ _=>none) (fun _ _=>none):=fun _ _=>OLe.none _
  cases c with
  | seq x y=>
   match i with
   | 0=>exact ih _ _ _ _ (seqK_up (bm3 hr hX _ _ _ _ hK) hK)
   | 1=>exact ih _ _ _ _ hK
   | n+2=>exact ⟨rfl,bad⟩
  | cond t x y=>
   match i with
   | 0=>exact ih _ _ _ _ (aA0 _ (hX p) hK)
   | 1=>exact ih _ _ _ _ (aA0 _ (hX p) hK)
   | n+2=>exact ⟨rfl,bad⟩
  | block id b=>
   match i with
   | 0=>exact ih _ _ _ _ (bA6 _ (aA0 _ (hX p) hK))
   | 1=>exact ⟨rfl,bad⟩
   | n+2=>exact ⟨rfl,bad⟩
  | loop b=>
   match i with
   | 0=>exact ih _ _ _ _ (bu0 (hX p) hK)
   | 1=>exact ⟨rfl,bad⟩
   | n+2=>exact ⟨rfl,bad⟩
  | _=>cases i with
   | zero=>exact ⟨rfl,bad⟩
   | succ i=>cases i<;>exact ⟨rfl,bad⟩
end
structure Env where
 R:Rec
 D:Option V->Rec
 X:Cuts
section
variable (P:Program) (H:ae2)
def bb4 (D:Option V->Rec)(f:FuncId)(fn:Func):Cont:=fun
 | .normal,st | .ret,st=>drain P H D st.d none st (fun m st=>aC7 P H f fn (exOf m) st)
 | .pan v,st=>drain P H D st.d (some v) st (fun m st=>aC7 P H f fn (exOf m) st)
 | _,_=>none
noncomputable def topZ (Z:Env)(f:FuncId):Ctx->Option (Code×Cont×Bool)
 | .body=>match P.funcs[f]? with
  | some fn=>(match fn.body with | some c=>some (c,bb4 P H Z.D f fn,false) | none=>none)
  | none=>none
 | .round id ps=>match aH0 ps (rfs (aD4 P f)) with
  | some cc=>some (cc.2,leaveY id,true)
  | none=>none
 | .dfr=>match P.funcs[f]? with
  | some fn=>(match fn.body with | some c=>some (c,aC7 P H f fn,false) | none=>none)
  | none=>none
 | .rcv=>match recB P f with
  | some (fn,_,_,_,rest)=>some (rest,aC7 P H f fn,false)
  | none=>none
noncomputable def bodyZ (Z:Env)(J:FuncId->Ctx->List Nat->Bool)(f:FuncId)(args:List V)(s:List O):R:=match P.funcs[f]? with
 | some fn=>match fn.body with
  | some c=>av3 P H Z.R false f (J f .body) (Z.X f .body) [] c (bb4 P H Z.D f fn) (start (H.sites f) args fn.ntmps s)
  | none=>none
 | none=>none
noncomputable def exitZ (Z:Env)(J:FuncId->Ctx->List Nat->Bool)(f:FuncId)(y:Ctx)(p:List Nat)(st:St):R:=match topZ P H Z f y with
 | some (c,K,inr)=>(atX P H Z.R inr f (J f y) (Z.X f y) [] p.reverse c K).2 .normal st
 | none=>none
noncomputable def roundZ (Z:Env)(J:FuncId->Ctx->List Nat->Bool)(f:FuncId)(y:Ctx)(p:List Nat)(st:St):R:=match topZ P H Z f y with
 | some (c,K,inr)=>match atX P H Z.R inr f (J f y) (Z.X f y) [] p.reverse c K with
  | (.loop b,K)=>av3 P H Z.R inr f (J f y) (Z.X f y) (0::p) b (ba5 (Z.X f y p) K) st
  | _=>none
 | none=>none
end
section
variable {P:Program} {H:ae2} {G:FuncId->Option (List V->List O->Option Out)} {J:FuncId->Ctx->List Nat->Bool}
structure bs0 (P:Program)(H:ae2)(G:FuncId->Option (List V->List O->Option Out))(Z:Env):Prop where
 r:∀f args s,OLe (Z.R f args s) (run P H G f args s)
 d:∀m f args s,OLe (Z.D m f args s) (aD3 P H (run P H G) m f args s)
 x:∀f y p st,OLe (Z.X f y p st) (XX P H (run P H G) f y p st)
noncomputable def envR (P:Program)(H:ae2)(G:FuncId->Option (List V->List O->Option Out)):Env:=⟨run P H G,aD3 P H (run P H G),XX P H (run P H G)⟩
theorem envR_ok :bs0 P H G (envR P H G):=⟨fun _ _ _=>OLe.rfl' _,fun _ _ _ _=>OLe.rfl' _,fun _ _ _ _=>OLe.rfl' _⟩
theorem leaveZ_up {D D':Option V->Rec}(hD:∀m,Up (D m) (D' m))(f:FuncId)(fn:Func):CLe (bb4 P H D f fn) (bb4 P H D' f fn):=by
 intro e st
 cases e with
 | normal=>exact aP6 hD _ _ _
 | ret=>exact aP6 hD _ _ _
 | pan v=>exact aP6 hD _ _ _
 | exit i=>exact OLe.none _
theorem leaveZ_eq {rec:Rec}(f:FuncId)(fn:Func):bb4 P H (aD3 P H rec) f fn=aF0 P H rec f fn:=by
 funext e st
 cases e<;>rfl
theorem bx6 {Z:Env}(hZ:bs0 P H G Z)(f:FuncId)(fn:Func):CLe (bb4 P H Z.D f fn) (aF0 P H (run P H G) f fn):=by
 rw [←leaveZ_eq]
 exact leaveZ_up (fun m f args s=>hZ.d m f args s) f fn
theorem topZ_le {Z:Env}(hZ:bs0 P H G Z)(f:FuncId)(y:Ctx):(topZ P H Z f y=none/\topX P H (run P H G) f y=none)∨∃c K K' inr,topZ P H Z f y=some (c,K,inr)/\topX P H (run P H G) f y=some (c,K',inr)/\CLe K K':=by
 have self:∀K:Cont,CLe K K:=fun K e st=>OLe.rfl' _
 cases y with
 | body=>
  simp only [topZ,topX]
  cases P.funcs[f]? with
  | none=>exact .inl ⟨rfl,rfl⟩
  | some fn=>
   simp only
   cases fn.body with
   | none=>exact .inl ⟨rfl,rfl⟩
   | some c=>exact .inr ⟨_,_,_,_,rfl,rfl,bx6 hZ _ _⟩
 | round id ps=>
  simp only [topZ,topX]
  cases aH0 ps (rfs (aD4 P f)) with
  | none=>exact .inl ⟨rfl,rfl⟩
  | some cc=>exact .inr ⟨_,_,_,_,rfl,rfl,self _⟩
 | dfr=>
  simp only [topZ,topX]
  cases P.funcs[f]? with
  | none=>exact .inl ⟨rfl,rfl⟩
  | some fn=>
   simp only
   cases fn.body with
   | none=>exact .inl ⟨rfl,rfl⟩
   | some c=>exact .inr ⟨_,_,_,_,rfl,rfl,self _⟩
 | rcv=>
  simp only [topZ,topX]
  cases recB P f with
  | none=>exact .inl ⟨rfl,rfl⟩
  | some q=>exact .inr ⟨_,_,_,_,rfl,rfl,self _⟩
theorem bodyZ_of {Z:Env}(hZ:bs0 P H G Z){f:FuncId}(hG:G f=none){args:List V}{s:List O}{o:Out}(h:bodyZ P H Z J f args s=some o):run P H G f args s=some o:=by
 apply bodyX_of (J:=J) hG
 unfold bodyZ at h
 unfold bodyX
 cases hf:P.funcs[f]? with
 | none=>rw [hf] at h;cases h
 | some fn=>
  rw [hf] at h
  simp only at h ⊢
  cases hb:fn.body with
  | none=>rw [hb] at h;cases h
  | some c=>
   rw [hb] at h
   exact bm3 hZ.r (fun p st=>hZ.x _ _ _ _) _ _ _ _ (bx6 hZ _ _) _ _ h
theorem exitZ_of {Z:Env}(hZ:bs0 P H G Z){f:FuncId}{y:Ctx}{p:List Nat}{st:St}{o:Out}(hl:bf0 P H (run P H G) f y p=true)(h:exitZ P H Z J f y p st=some o):XX P H (run P H G) f y p st=some o:=by
 apply exitX_of (J:=J) hl
 unfold exitZ at h
 unfold exitX
 rcases topZ_le hZ f y with ⟨h1,h2⟩ | ⟨c,K,K',inr,h1,h2,hK⟩
 ·rw [h1] at h;cases h
 ·rw [h1] at h
  rw [h2]
  exact (atX_up hZ.r (fun p st=>hZ.x _ _ _ _) _ _ _ _ _ hK).2 _ _ _ h
theorem roundZ_of {Z:Env}(hZ:bs0 P H G Z){f:FuncId}{y:Ctx}{p:List Nat}{st:St}{o:Out}(h:roundZ P H Z J f y p st=some o):XX P H (run P H G) f y p st=some o:=by
 apply roundX_of (J:=J)
 unfold roundZ at h
 unfold roundX
 rcases topZ_le hZ f y with ⟨h1,h2⟩ | ⟨c,K,K',inr,h1,h2,hK⟩
 ·rw [h1] at h;cases h
 ·rw [h1] at h
  rw [h2]
  simp only at h ⊢
  have ha:=atX_up (J:=J f y) (X:=Z.X f y) (X':=XX P H (run P H G) f y) hZ.r (fun p st=>hZ.x _ _ _ _) p.reverse [] c _ _ hK (inr:=inr) (f:=f) (P:=P) (H:=H)
  generalize atX P H Z.R inr f (J f y) (Z.X f y) [] p.reverse c K=q at h ha
  generalize atX P H (run P H G) inr f (J f y) (XX P H (run P H G) f y) [] p.reverse c K'=q' at ha
  obtain ⟨c1,K1⟩:=q
  obtain ⟨c2,K2⟩:=q'
  obtain ⟨a1,a2⟩:=ha
  simp only at a1 a2
  subst a1
  cases c1 with
  | loop b=>exact bm3 hZ.r (fun p st=>hZ.x _ _ _ _) _ _ _ _ (bu0 (fun st=>hZ.x _ _ _ _) a2) _ _ h
  | _=>cases h
end
end Go.Proofs.YtnpjififnhjbbaaDoor.E
