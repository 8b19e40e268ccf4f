/- It is proved that an evaluation with cut points tells no less. No condition beyond the lemmas' own. -/
import Derived.Test.YtnpjififnhjbbaaDoorEXIM
namespace Go.Proofs.YtnpjififnhjbbaaDoor.E
open Go
inductive Ctx where
 | body | round (id:Nat) (ps:List Nat) | dfr | rcv
abbrev Cuts :=FuncId->Ctx->List Nat->St->R
def cutK (j:Bool)(x:St->R)(K:Cont):Cont:=fun
 | .normal,st=>bif j then x st else K .normal st
 | e,st=>K e st
def ba5 (x:St->R)(K:Cont):Cont:=fun
 | .normal,st=>x st
 | e,st=>K e st
def frzLK :List (Spot×Option Nat)->St->(St->R)->R
 | [],st,K=>K st
 | p::r,st,K=>(aR3 p.2 (aQ5 st p.1)).bind fun v=>(frzV st.s v).bind fun q=>frzLK r (setSpotV {st with g:=st.g+1,s:=q.2} (aD6 p.2 (aQ5 st p.1) q.1) p.1) K
def isLoc (i:Nat):V->Bool | .loc j _=>Nat.beq j i | _=>false
def nlB (i:Nat):List (V×Tag)->Bool
 | []=>true
 | v::r=>bif isLoc i v.1 then false else nlB i r
theorem nlB_eq (i:Nat):∀(l:List (V×Tag)),nlB i l=aT7 i l
 | []=>rfl
 | (v,t)::r=>by
  have ih:=nlB_eq i r
  cases v with
  | loc j o=>
   simp only [nlB,isLoc,aT7,ih]
   cases h:Nat.beq j i with
   | true=>have:=Nat.eq_of_beq_eq_true h;subst this;simp
   | false=>have:j≠i:=Nat.ne_of_beq_eq_false h;simp [this]
  | _=>simp only [nlB,isLoc,aT7,cond_false,ih]
def bz4 (st:St):List Nat->(St->R)->R
 | [],K=>K st
 | i::r,K=>ck (nlB i st.t) (bz4 {st with a:=st.a.set i []} r K)
theorem bz3 (K:St->R):∀(l:List Nat) (st:St),bz4 st l K=(bq8 st l).bind K
 | [],st=>rfl
 | i::r,st=>by
  simp only [bz4,bq8,nlB_eq]
  cases aT7 i st.t with
  | true=>simp only [ck,cond_true];exact bz3 K r _
  | false=>rfl
def aY7 (b:Bhd)(st:St):Option St:=let st:=b.weak.foldl bs4 st;match b.keep with | none=>some st | some ks=>bA0 ks st
def bh0 (b:Bhd)(st:St)(K:St->R):R:=frzLK b.frz st fun st=>bz4 (clearS b.clear st) b.drop fun st=>(aY7 b st).bind K
theorem frzLK_eq (K:St->R):∀(l:List (Spot×Option Nat)) (st:St),frzLK l st K=(frzL l st).bind K
 | [],st=>rfl
 | p::r,st=>by
  simp only [frzLK,frzL,frzS]
  cases aR3 p.2 (aQ5 st p.1) with
  | none=>rfl
  | some v=>
   simp only [Option.bind_some]
   cases frzV st.s v with
   | none=>rfl
   | some q=>exact frzLK_eq K r _
theorem br4 (b:Bhd)(st:St)(K:St->R):bh0 b st K=(behind b st).bind K:=by
 unfold bh0 behind
 rw [frzLK_eq,Option.bind_assoc]
 congr 1
 funext st
 rw [bz3,Option.bind_assoc]
 rfl
def regKX (b:Bhd)(K:Cont):Cont:=fun
 | .normal,st=>bh0 b st (K .normal)
 | e,st=>K e st
theorem regKX_eq (b:Bhd)(K:Cont):regKX b K=regK b K:=by
 funext e st
 cases e with
 | normal=>exact br4 b st _
 | _=>rfl
def bA3 (H:ae2)(f:FuncId)(c:Operand)(b:Bool)(st:St)(K:St->R):R:=match c with | .tmp t=>bh0 (H.bc f t b) st K | _=>K st
theorem aW1 (H:ae2)(f:FuncId)(c:Operand)(b:Bool)(st:St)(K:St->R):bA3 H f c b st K=(branch H f c b st).bind K:=by
 cases c with
 | tmp t=>exact br4 _ _ _
 | _=>rfl
section
variable (P:Program) (H:ae2)
noncomputable def av3 (rec:Rec)(inr:Bool)(f:FuncId)(J:List Nat->Bool)(X:List Nat->St->R):List Nat->Code->Cont->St->R
 | p,.seq x y,K,st=>av3 rec inr f J X (0::p) x (seqK (av3 rec inr f J X (1::p) y K) K) st
 | p,.cond c x y,K,st=>match (ev H st c).1 with
  | .bool b=>bif b then bA3 H f c true st (av3 rec inr f J X (0::p) x (cutK (J p) (X p) K)) else bA3 H f c false st (av3 rec inr f J X (1::p) y (cutK (J p) (X p) K))
  | _=>none
 | p,.block id c,K,st=>av3 rec inr f J X (0::p) c (ay8 id (cutK (J p) (X p) K)) st
 | p,.loop _,_,st=>X p st
 | p,.region id os d,K,st=>
  bif d then aS7 P H rec f os (aR4 P H f os) (2 ^ os.size-1) (regKX (H.br f id) (cutK (J p) (X p) K) .normal) os.size 0 st
  else opsT P H rec inr f os (regKX (H.br f id) (cutK (J p) (X p) K) .normal) (regKX (H.br f id) (cutK (J p) (X p) K)) os.toList st
 | _,c,K,st=>ag5 P H rec inr f c K st
noncomputable def atX (rec:Rec)(inr:Bool)(f:FuncId)(J:List Nat->Bool)(X:List Nat->St->R):List Nat->List Nat->Code->Cont->Code×Cont
 | p,0::q,.seq x y,K=>atX rec inr f J X (0::p) q x (seqK (av3 P H rec inr f J X (1::p) y K) K)
 | p,1::q,.seq _ y,K=>atX rec inr f J X (1::p) q y K
 | p,0::q,.cond _ x _,K=>atX rec inr f J X (0::p) q x (cutK (J p) (X p) K)
 | p,1::q,.cond _ _ y,K=>atX rec inr f J X (1::p) q y (cutK (J p) (X p) K)
 | p,0::q,.block id c,K=>atX rec inr f J X (0::p) q c (ay8 id (cutK (J p) (X p) K))
 | p,0::q,.loop c,K=>atX rec inr f J X (0::p) q c (ba5 (X p) K)
 | _,[],c,K=>(c,K)
 | _,_,_,_=>(.skip,fun _ _=>none)
noncomputable def topX (rec:Rec)(f:FuncId):Ctx->Option (Code×Cont×Bool)
 | .body=>match P.funcs[f]? with
  | some fn=>(match fn.body with | some c=>some (c,aF0 P H rec f fn,false) | none=>none)
  | none=>none
 | .round id ps=>match aH0 ps (rfs (aD4 P f)) with
  | some cc=>some (cc.2,leaveY id,true)
  | none=>none
 | .dfr=>match P.funcs[f]? with
  | some fn=>(match fn.body with | some c=>some (c,aC7 P H f fn,false) | none=>none)
  | none=>none
 | .rcv=>match recB P f with
  | some (fn,_,_,_,rest)=>some (rest,aC7 P H f fn,false)
  | none=>none
noncomputable def bodyX (rec:Rec)(J:FuncId->Ctx->List Nat->Bool)(X:Cuts)(f:FuncId)(args:List V)(s:List O):R:=match P.funcs[f]? with
 | some fn=>match fn.body with
  | some c=>av3 P H rec false f (J f .body) (X f .body) [] c (aF0 P H rec f fn) (start (H.sites f) args fn.ntmps s)
  | none=>none
 | none=>none
noncomputable def exitX (rec:Rec)(J:FuncId->Ctx->List Nat->Bool)(X:Cuts)(f:FuncId)(y:Ctx)(p:List Nat)(st:St):R:=match topX P H rec f y with
 | some (c,K,inr)=>(atX P H rec inr f (J f y) (X f y) [] p.reverse c K).2 .normal st
 | none=>none
noncomputable def roundX (rec:Rec)(J:FuncId->Ctx->List Nat->Bool)(X:Cuts)(f:FuncId)(y:Ctx)(p:List Nat)(st:St):R:=match topX P H rec f y with
 | some (c,K,inr)=>match atX P H rec inr f (J f y) (X f y) [] p.reverse c K with
  | (.loop b,K)=>av3 P H rec inr f (J f y) (X f y) (0::p) b (ba5 (X f y p) K) st
  | _=>none
 | none=>none
noncomputable def nodeK :Code×Cont->(Rec)->Bool->FuncId->St->R
 | (.loop b,K),rec,inr,f,st=>bw9 (ag5 P H rec inr f b) K st
 | (_,K),_,_,_,st=>K .normal st
noncomputable def XX (rec:Rec):Cuts:=fun f y p st=>match topX P H rec f y with
 | some (c,K,inr)=>nodeK P H (atT P H rec inr f p.reverse c K) rec inr f st
 | none=>none
noncomputable def bf0 (rec:Rec)(f:FuncId)(y:Ctx)(p:List Nat):Bool:=match topX P H rec f y with
 | some (c,K,inr)=>!bk1 (atT P H rec inr f p.reverse c K).1
 | none=>false
end
section
variable {P:Program} {H:ae2} {rec:Rec} {inr:Bool} {f:FuncId} {J:List Nat->Bool} {X:List Nat->St->R}
theorem aP9 (K:Cont):∀q,atT P H rec inr f q .skip K=(.skip,K)
 | []=>by simp only [atT]
 | i::q=>by
  cases i with
  | zero=>simp only [atT]
  | succ i=>cases i<;>simp only [atT]
theorem atT_apps :∀(p q:List Nat) (c:Code) (K:Cont),atT P H rec inr f (p++q) c K=atT P H rec inr f q (atT P H rec inr f p c K).1 (atT P H rec inr f p c K).2:=by
 intro p q
 induction p with
 | nil=>intro c K;cases c<;>simp [atT]
 | cons i p ih=>
  intro c K
  cases c with
  | seq x y=>
   match i with
   | 0=>exact ih x _
   | 1=>exact ih y _
   | n+2=>simp [atT,aP9]
  | cond o x y=>
   match i with
   | 0=>exact ih x _
   | 1=>exact ih y _
   | n+2=>simp [atT,aP9]
  | block id b=>
   match i with
   | 0=>exact ih b _
   | n+1=>simp [atT,aP9]
  | loop b=>
   match i with
   | 0=>exact ih b _
   | n+1=>simp [atT,aP9]
  | _=>simp [atT,aP9]
theorem aq4 {p:List Nat}{i:Nat}{c0 c:Code}{K0 K:Cont}(h:atT P H rec inr f p.reverse c0 K0=(c,K)):atT P H rec inr f (i::p).reverse c0 K0=atT P H rec inr f [i] c K:=by
 rw [List.reverse_cons,atT_apps,h]
def Sound (P:Program)(H:ae2)(rec:Rec)(inr:Bool)(f:FuncId)(X:List Nat->St->R)(c0:Code)(K0:Cont):Prop:=
 ∀p st o,X p st=some o->nodeK P H (atT P H rec inr f p.reverse c0 K0) rec inr f st=some o
def KLe (K K':Cont):Prop:=∀e st o,K e st=some o->K' e st=some o
theorem KLe.cut {c0 c:Code}{K0 K K':Cont}{p:List Nat}(hX:Sound P H rec inr f X c0 K0)(hl:bk1 c=false)(h:atT P H rec inr f p.reverse c0 K0=(c,K'))(hK:KLe K K'):KLe (cutK (J p) (X p) K) K':=by
 intro e st o he
 cases e with
 | normal=>
  simp only [cutK] at he
  cases hj:J p with
  | false=>rw [hj] at he;exact hK _ _ _ he
  | true=>
   rw [hj] at he
   have:=hX p st o he
   rw [h] at this
   cases c<;>first | exact this | cases hl
 | exit i=>exact hK _ _ _ he
 | ret=>exact hK _ _ _ he
 | pan v=>exact hK _ _ _ he
theorem KLe.block {K K':Cont}{id:Nat}(hK:KLe K K'):KLe (ay8 id K) (ay8 id K'):=by
 intro e st o he
 cases e with
 | exit i=>
  simp only [ay8] at he ⊢
  cases hb:i==id with
  | true=>rw [hb] at he;exact hK _ _ _ he
  | false=>rw [hb] at he;exact hK _ _ _ he
 | normal=>exact hK _ _ _ he
 | ret=>exact hK _ _ _ he
 | pan v=>exact hK _ _ _ he
theorem KLe.seq {y y':St->R}{K K':Cont}(hy:∀st o,y st=some o->y' st=some o)(hK:KLe K K'):KLe (seqK y K) (seqK y' K'):=by
 intro e st o he
 cases e with
 | normal=>exact hy _ _ he
 | exit i=>exact hK _ _ _ he
 | ret=>exact hK _ _ _ he
 | pan v=>exact hK _ _ _ he
theorem bm4 {c0:Code}{K0:Cont}(hX:Sound P H rec inr f X c0 K0):∀(c:Code) (p:List Nat) (K K':Cont) (st:St) (o:Out),atT P H rec inr f p.reverse c0 K0=(c,K')->KLe K K'->av3 P H rec inr f J X p c K st=some o->ag5 P H rec inr f c K' st=some o:=by
 intro c
 induction c with
 | seq x y ihx ihy=>
  intro p K K' st o hp hK h
  simp only [av3] at h
  simp only [ag5]
  exact ihx (0::p) _ _ st o (by rw [aq4 hp];simp only [atT]) (KLe.seq (fun st o h=>ihy (1::p) _ _ st o (by rw [aq4 hp];simp only [atT]) hK h) hK) h
 | cond t x y ihx ihy=>
  intro p K K' st o hp hK h
  have hc:=KLe.cut (J:=J) hX rfl hp hK
  simp only [av3] at h
  simp only [ag5]
  cases hv:(ev H st t).1 with
  | bool b=>
   rw [hv] at h
   cases b with
   | true=>
    simp only [cond_true,aW1] at h ⊢
    obtain ⟨st',h1,h2⟩:=Option.bind_eq_some_iff.1 h
    rw [h1]
    exact ihx (0::p) _ _ st' o (by rw [aq4 hp];simp only [atT]) hc h2
   | false=>
    simp only [cond_false,aW1] at h ⊢
    obtain ⟨st',h1,h2⟩:=Option.bind_eq_some_iff.1 h
    rw [h1]
    exact ihy (1::p) _ _ st' o (by rw [aq4 hp];simp only [atT]) hc h2
  | _=>rw [hv] at h;cases h
 | block id c ih=>
  intro p K K' st o hp hK h
  simp only [av3] at h
  simp only [ag5]
  exact ih (0::p) _ _ st o (by rw [aq4 hp];simp only [atT]) (KLe.block (KLe.cut (J:=J) hX rfl hp hK)) h
 | loop c ih=>
  intro p K K' st o hp hK h
  simp only [av3] at h
  have:=hX p st o h
  rw [hp] at this
  exact this
 | region id os d=>
  intro p K K' st o hp hK h
  simp only [av3,regKX_eq,bq9] at h
  replace h:ag5 P H rec inr f (.region id os d) (cutK (J p) (X p) K) st=some o:=by simp only [ag5];exact h
  exact bm5 (fun e st h=>KLe.cut (J:=J) hX rfl hp hK e st o h) h
 | _=>
  intro p K K' st o hp hK h
  simp only [av3] at h
  exact bm5 (fun e st h=>hK e st o h) h
theorem atX_le {c0:Code}{K0:Cont}(hX:Sound P H rec inr f X c0 K0):∀(q:List Nat) (p:List Nat) (c:Code) (K K':Cont) (st:St) (o:Out),atT P H rec inr f p.reverse c0 K0=(c,K')->KLe K K' ->
  ((atX P H rec inr f J X p q c K).1=(atT P H rec inr f q c K').1/\KLe (atX P H rec inr f J X p q c K).2 (atT P H rec inr f q c K').2)∨KLe (atX P H rec inr f J X p q c K).2 (fun _ _=>none)/\bk1 (atX P H rec inr f J X p q c K).1=false:=by
 intro q
 induction q with
 | nil=>
  intro p c K K' st o hp hK
  refine .inl ?_
  cases c<;>exact ⟨rfl,hK⟩
 | cons i q ih=>
  intro p c K K' st o hp hK
  have bad:KLe (fun _ _=>none) (fun _ _=>none):=fun _ _ _ h=>h
  cases c with
  | seq x y=>
   match i with
   | 0=>exact ih (0::p) x _ _ st o (by rw [aq4 hp];simp only [atT]) (KLe.seq (fun st o h=>bm4 hX y (1::p) _ _ st o (by rw [aq4 hp];simp only [atT]) hK h) hK)
   | 1=>exact ih (1::p) y _ _ st o (by rw [aq4 hp];simp only [atT]) hK
   | n+2=>exact .inr ⟨bad,rfl⟩
  | cond t x y=>
   match i with
   | 0=>exact ih (0::p) x _ _ st o (by rw [aq4 hp];simp only [atT]) (KLe.cut (J:=J) hX rfl hp hK)
   | 1=>exact ih (1::p) y _ _ st o (by rw [aq4 hp];simp only [atT]) (KLe.cut (J:=J) hX rfl hp hK)
   | n+2=>exact .inr ⟨bad,rfl⟩
  | block id b=>
   match i with
   | 0=>exact ih (0::p) b _ _ st o (by rw [aq4 hp];simp only [atT]) (KLe.block (KLe.cut (J:=J) hX rfl hp hK))
   | 1=>exact .inr ⟨bad,rfl⟩
   | n+2=>exact .inr ⟨bad,rfl⟩
  | loop b=>
   match i with
   | 0=>
    refine ih (0::p) b _ _ st o (by rw [aq4 hp];simp only [atT]) ?_
    intro e st o he
    cases e with
    | normal=>
     have:=hX p st o he
     rw [hp] at this
     exact this
    | exit i=>exact hK _ _ _ he
    | ret=>exact hK _ _ _ he
    | pan v=>exact hK _ _ _ he
   | 1=>exact .inr ⟨bad,rfl⟩
   | n+2=>exact .inr ⟨bad,rfl⟩
  | _=>cases i with
   | zero=>exact .inr ⟨bad,rfl⟩
   | succ i=>cases i<;>exact .inr ⟨bad,rfl⟩
end
section
variable {P:Program} {H:ae2} {G:FuncId->Option (List V->List O->Option Out)} {J:FuncId->Ctx->List Nat->Bool}
theorem bn3 {rec:Rec}{f:FuncId}{y:Ctx}{c:Code}{K:Cont}{inr:Bool}(ht:topX P H rec f y=some (c,K,inr)):Sound P H rec inr f (XX P H rec f y) c K:=by
 intro p st o h
 unfold XX at h
 rw [ht] at h
 exact h
theorem bB0 (rec:Rec)(inr:Bool)(f:FuncId)(c:Code)(K:Cont):atT P H rec inr f ([]:List Nat).reverse c K=(c,K):=by cases c<;>rfl
theorem bodyX_of {f:FuncId}(hG:G f=none){args:List V}{s:List O}{o:Out}(h:bodyX P H (run P H G) J (XX P H (run P H G)) f args s=some o):run P H G f args s=some o:=by
 unfold bodyX at h
 cases hf:P.funcs[f]? with
 | none=>rw [hf] at h;cases h
 | some fn=>
  rw [hf] at h
  simp only at h
  cases hb:fn.body with
  | none=>rw [hb] at h;cases h
  | some c=>
   rw [hb] at h
   have ht:topX P H (run P H G) f .body=some (c,aF0 P H (run P H G) f fn,false):=by unfold topX;rw [hf];simp only [hb]
   have:=bm4 (J:=J f .body) (bn3 ht) c [] _ _ _ o (bB0 _ _ _ _ _) (fun _ _ _ h=>h) h
   exact run_of hG hf hb (bm5 (fun e st h=>leaveTK_le h) this)
theorem exitX_of {rec:Rec}{f:FuncId}{y:Ctx}{p:List Nat}{st:St}{o:Out}(hl:bf0 P H rec f y p=true)(h:exitX P H rec J (XX P H rec) f y p st=some o):XX P H rec f y p st=some o:=by
 unfold exitX at h
 unfold XX
 unfold bf0 at hl
 cases ht:topX P H rec f y with
 | none=>rw [ht] at h;cases h
 | some q0=>
  obtain ⟨c,K,inr⟩:=q0
  rw [ht] at h hl
  simp only at h hl ⊢
  rcases atX_le (J:=J f y) (bn3 ht) p.reverse [] c _ _ st o (bB0 _ _ _ _ _) (fun _ _ _ h=>h) with ⟨_,h2⟩ | ⟨h2,_⟩
  ·have:=h2 _ _ _ h
   generalize atT P H rec inr f p.reverse c K=q at this hl
   obtain ⟨c',K⟩:=q
   cases c'<;>first | exact this | simp [bk1] at hl
  ·have:=h2 _ _ _ h
   cases this
theorem roundX_of {rec:Rec}{f:FuncId}{y:Ctx}{p:List Nat}{st:St}{o:Out}(h:roundX P H rec J (XX P H rec) f y p st=some o):XX P H rec f y p st=some o:=by
 unfold roundX at h
 cases ht:topX P H rec f y with
 | none=>rw [ht] at h;cases h
 | some q0=>
  obtain ⟨c,K0,inr⟩:=q0
  rw [ht] at h
  simp only at h
  have hX:=bn3 ht
  have hxx:∀st,XX P H rec f y p st=nodeK P H (atT P H rec inr f p.reverse c K0) rec inr f st:=by
   intro st
   unfold XX
   rw [ht]
  have ha:=atX_le (J:=J f y) hX p.reverse [] c _ _ st o (bB0 _ _ _ _ _) (fun _ _ _ h=>h)
  generalize hq:atX P H rec inr f (J f y) (XX P H rec f y) [] p.reverse c K0=q at h ha
  obtain ⟨c',K⟩:=q
  cases c' with
  | loop b=>
   simp only at h
   rcases ha with ⟨h1,h2⟩ | ⟨_,h2⟩
   ·generalize hq':atT P H rec inr f p.reverse c K0=q' at h1 h2 hxx
    obtain ⟨c2,K2⟩:=q'
    simp only at h1 h2
    subst h1
    rw [hxx]
    simp only [nodeK]
    apply loopL_of
    refine bm4 (J:=J f y) hX b (0::p) _ _ st o (by rw [aq4 hq'];simp only [atT]<;>congr 1) ?_ h
    intro e st o he
    cases e with
    | normal=>simp only [ba5] at he;rw [hxx] at he;exact he
    | exit i=>exact h2 _ _ _ he
    | ret=>exact h2 _ _ _ he
    | pan v=>exact h2 _ _ _ he
   ·simp [bk1] at h2
  | _=>cases h
end
end Go.Proofs.YtnpjififnhjbbaaDoor.E
