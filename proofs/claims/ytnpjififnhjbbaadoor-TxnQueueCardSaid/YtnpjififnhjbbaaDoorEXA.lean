/- It is proved of operations that are written once more, as functions that go on with a rest, that they are the evaluator's. No condition beyond the lemmas' own. -/
import Derived.Test.YtnpjififnhjbbaaDoorE5
namespace Go.Proofs.YtnpjififnhjbbaaDoor.E
open Go
abbrev R :=Option Out
def asInt (k:IntKind)(v:V)(K:Int->R):R:=match v with | .int k' n=>if k'=k then K n else none | _=>none
def asBool (v:V)(K:Bool->R):R:=match v with | .bool b=>K b | _=>none
def asStr (v:V)(K:ByteArray->R):R:=match v with | .str s=>K s | _=>none
def aM2 (v:V)(K:Nat->R):R:=match v with | .map i=>K i | _=>none
def bd3 (v:V)(K:Nat->Nat->R):R:=match v with | .obj i o=>K i o | _=>none
def aw7 (k:Nat)(v:V)(K:Bool->List V->R):R:=match v with
 | .list nn k' es=>if k'=k then K nn es else match nn,es with | false,[]=>K false [] | _,_=>none
 | _=>none
def asAgg (v:V)(K:List V->R):R:=match v with | .agg cs=>K cs | _=>none
def asRef (v:V)(K:List V->R):R:=match v with | .ref cs=>K cs | _=>none
def asTup (v:V)(K:List V->R):R:=match v with | .tup cs=>K cs | _=>none
def aT3 (l:List V)(K:V->List V->R):R:=match l with | v::r=>K v r | []=>none
def asNil (l:List V)(K:R):R:=match l with | []=>K | _=>none
mutual
def aN6 :Sh->V->(V->R)->R
 | .any,v,K=>K v
 | .bool,v,K=>asBool v fun b=>K (.bool b)
 | .str,v,K=>asStr v fun s=>K (.str s)
 | .obj,v,K=>bd3 v fun i o=>K (.obj i o)
 | .map,v,K=>aM2 v fun i=>K (.map i)
 | .int k,v,K=>asInt k v fun n=>K (.int k n)
 | .list k,v,K=>aw7 k v fun nn es=>K (.list nn k es)
 | .agg l,v,K=>asAgg v fun cs=>be9 l cs fun cs=>K (.agg cs)
 | .ref l,v,K=>asRef v fun cs=>be9 l cs fun cs=>K (.ref cs)
 | .tup l,v,K=>asTup v fun cs=>be9 l cs fun cs=>K (.tup cs)
def be9 :List Sh->List V->(List V->R)->R
 | [],vs,K=>asNil vs (K [])
 | s::l,vs,K=>aT3 vs fun v r=>aN6 s v fun v=>be9 l r fun r=>K (v::r)
end
mutual
theorem openS_eq :∀(s:Sh) (v:V) (K:V->R),aN6 s v K=(norm s v).bind K
 | .any,v,K=>by simp [aN6,norm]
 | .bool,v,K=>by cases v<;>simp [aN6,norm,asBool]
 | .str,v,K=>by cases v<;>simp [aN6,norm,asStr]
 | .obj,v,K=>by cases v<;>simp [aN6,norm,bd3]
 | .map,v,K=>by cases v<;>simp [aN6,norm,aM2]
 | .int k,v,K=>by cases v<;>simp [aN6,norm,asInt];split<;>simp
 | .list k,v,K=>by
  cases v<;>simp only [aN6,norm,aw7,Option.bind_none]
  rename_i nn k' es
  split
  ·rfl
  ·cases nn<;>cases es<;>rfl
 | .agg l,v,K=>by
  cases v<;>simp only [aN6,norm,asAgg,aX4,Option.bind_none]
  cases aw1 l _<;>rfl
 | .ref l,v,K=>by
  cases v<;>simp only [aN6,norm,asRef,aX4,Option.bind_none]
  cases aw1 l _<;>rfl
 | .tup l,v,K=>by
  cases v<;>simp only [aN6,norm,asTup,aX4,Option.bind_none]
  cases aw1 l _<;>rfl
theorem aX4 :∀(l:List Sh) (vs:List V) (K:List V->R),be9 l vs K=(aw1 l vs).bind K
 | [],vs,K=>by cases vs<;>simp [be9,aw1,asNil]
 | s::l,vs,K=>by
  cases vs with
  | nil=>simp [be9,aw1,aT3]
  | cons v r=>
   simp only [be9,aw1,aT3,openS_eq]
   cases norm s v with
   | none=>rfl
   | some v'=>simp only [Option.bind_some,aX4];cases aw1 l r<;>rfl
end
def aa9 {α:Type}(x:Option α)(X:(α->R)->R):Prop:=∀K o,X K=some o->∃r,x=some r/\∀K',X K'=K' r
theorem aa9.bind {α:Type}(x:Option α):aa9 x (fun K=>x.bind K):=fun K o h=>by
 obtain ⟨r,hr,_⟩:=Option.bind_eq_some_iff.1 h
 exact ⟨r,hr,fun K'=>by rw [hr];rfl⟩
theorem aa9.ck {α:Type}{x:Option α}{X:(α->R)->R}(c:Bool)(h:aa9 x X):aa9 (E.ck c x) (fun K=>E.ck c (X K)):=fun K o e=>by
 obtain ⟨e1,e2⟩:=aa2 e
 obtain ⟨r,h1,h2⟩:=h K o e2
 exact ⟨r,by rw [e1];exact h1,fun K'=>by rw [e1];exact h2 K'⟩
theorem aa9.map {α β:Type}{x:Option α}{X:(α->R)->R}(g:α->β)(h:aa9 x X):aa9 (x.map g) (fun K=>X fun r=>K (g r)):=fun K o e=>by
 obtain ⟨r,h1,h2⟩:=h _ o e
 exact ⟨g r,by rw [h1];rfl,fun K'=>h2 _⟩
theorem aa9.some {α:Type}(r:α):aa9 (some r) (fun K=>K r):=fun K o e=>⟨r,rfl,fun _=>rfl⟩
theorem aa9.none {α:Type}(x:Option α):aa9 x (fun _=>none):=fun K o e=>by cases e
theorem aa9.weak {α:Type}{x y:Option α}{X:(α->R)->R}(h:aa9 x X)(e:∀r,x=Option.some r->y=Option.some r):aa9 y X:=fun K o q=>by
 obtain ⟨r,h1,h2⟩:=h K o q
 exact ⟨r,e r h1,h2⟩
theorem aa9.then {α β:Type}{x:Option α}{X:(α->R)->R}{g:α->Option β}{G:α->(β->R)->R}(h:aa9 x X)(hg:∀a,aa9 (g a) (G a)):aa9 (x.bind g) (fun K=>X fun a=>G a K):=fun K o e=>by
 obtain ⟨a,h1,h2⟩:=h (fun a=>G a K) o e
 have e:X (fun a=>G a K)=Option.some o:=e
 rw [h2] at e
 obtain ⟨b,h3,h4⟩:=hg a K o e
 exact ⟨b,by rw [h1];exact h3,fun K'=>(h2 _).trans (h4 K')⟩
def idxK (es:List V)(i:Int)(K:V->R):R:=if 0<=i then match es[i.toNat]? with | some v=>K v | none=>none else none
def bc8 (s:ByteArray)(i:Int)(K:Int->R):R:=if 0<=i then match s[i.toNat]? with | some c=>K c.toNat | none=>none else none
def rd1 (s:List O)(id off:Nat)(K:V->R):R:=match s[id]? with
 | some (.box cs)=>match cs[off]? with | some x=>K x.1 | none=>none
 | _=>none
def rdT (s:List O)(id off:Nat)(K:V->R)(KT:V->List O->R):R:=match s[id]? with
 | some (.box cs)=>match cs[off]? with | some x=>bif x.2 then KT x.1 (s.set id (.box (cs.set off (x.1,false)))) else K x.1 | none=>none
 | _=>none
def rdN (s:List O)(id off n:Nat)(K:List V->R):R:=match s[id]? with
 | some (.box cs)=>match taken n (cs.drop off) with | some c=>K (c.map (·.1)) | none=>none
 | _=>none
def wrO (s:List O)(id off:Nat)(new:List (V×Bool))(K:List O->R):R:=match s[id]? with
 | some (.box old)=>bif Nat.ble (off+new.length) old.length then K (s.set id (.box (ae3 old off new))) else none
 | _=>none
def ay6 (l:List V)(K:R):R:=bif ac5 l then K else none
def mapK (s:List O)(id:Nat)(K:List (V×V)->Nat->R):R:=match s[id]? with | some (.map es c)=>K es c | _=>none
def ar6 (key:V)(es:List (V×V))(K:Option V->R):R:=match aB1 key es with | some r=>K r | none=>none
def putK (key val:V)(es:List (V×V))(K:List (V×V)->R):R:=match putV key val es with | some r=>K r | none=>none
def posK (key:V)(es:List (V×V))(K:Nat->R):R:=match posV key es with | some i=>K i | none=>none
def kvK (es:List (V×V))(n:Int)(K:V×V->R):R:=match es[n.toNat]? with | some kv=>K kv | none=>none
def eqFsT (P:Program)(xs ys:List V):List Field->Option Bool
 | []=>some true
 | f::r=>E.ck (!(f.name== "_")&&!af4 P f.type) <|
  (xs[f.offset]?).bind fun x=>(ys[f.offset]?).bind fun y=>(eqB P f.type x y).bind fun b=>(eqFsT P xs ys r).map fun c=>b&&c
theorem eqFsT_eq {P:Program}{xs ys:List V}:∀(l:List Field) (b:Bool),eqFsT P xs ys l=some b->eqFs P xs ys l=some b
 | [],b,h=>h
 | f::r,b,h=>by
  simp only [eqFsT] at h
  obtain ⟨h1,h⟩:=aa2 h
  obtain ⟨x,hx,h⟩:=Option.bind_eq_some_iff.1 h
  obtain ⟨y,hy,h⟩:=Option.bind_eq_some_iff.1 h
  obtain ⟨c,hc,h⟩:=Option.bind_eq_some_iff.1 h
  obtain ⟨d,hd,rfl⟩:=Option.map_eq_some_iff.1 h
  simp only [eqFs,E.ck,h1,hx,hy,hc,cond_true,Option.bind_some]
  cases c with
  | false=>rfl
  | true=>simpa using eqFsT_eq r d hd
def eqVT (P:Program)(t:TypeId)(x y:V):Option Bool:=
 match P.underlying t,x,y with
 | some (.struct fs),.agg xs,.agg ys=>E.ck (!P.stoodInHeld t&&!P.eqGuardType P.depth t) (eqFsT P xs ys fs.toList)
 | _,x,y=>eqB P t x y
theorem eqVT_eq {P:Program}{t:TypeId}{x y:V}{b:Bool}(h:eqVT P t x y=some b):eqV P t x y=some b:=by
 unfold eqVT at h
 unfold eqV
 split at h
 ·rename_i fs xs ys hu
  obtain ⟨h1,h⟩:=aa2 h
  rw [hu]
  simp only [E.ck,h1,cond_true]
  exact eqFsT_eq _ _ h
 ·rename_i n
  split
  ·rename_i fs xs ys hu;exact absurd rfl (n fs xs ys hu rfl)
  ·exact h
def binK (P:Program)(op:BinOp)(t:TypeId)(x y:V)(K:V->R):R:=
 match op,x,y with
 | .shl,.int k a,.int _ b=>E.ck (!decide (b<0)) (K (.int k (k.wrap (a*2 ^ min b.toNat k.bits))))
 | .shr,.int k a,.int _ b=>E.ck (!decide (b<0)) (K (.int k (a.fdiv (2 ^ min b.toNat k.bits))))
 | .quo,.int k a,.int k' b=>if k=k' then E.ck (!decide (b=0)) (K (.int k (k.wrap (a.tdiv b)))) else none
 | .rem,.int k a,.int k' b=>if k=k' then E.ck (!decide (b=0)) (K (.int k (a.tmod b))) else none
 | .add,.str a,.str b=>E.ck (Nat.ble (a.size+b.size) 9223372036854775807) (K (.str (a++b)))
 | .eql,.agg x,.agg y=>(eqVT P t (.agg x) (.agg y)).bind fun b=>K (.bool b)
 | .neq,.agg x,.agg y=>(eqVT P t (.agg x) (.agg y)).bind fun b=>K (.bool !b)
 | op,x,y=>(binV P op t x y).bind K
theorem binK_eq (P:Program)(op:BinOp)(t:TypeId)(x y:V):aa9 (binV P op t x y) (binK P op t x y):=by
 intro K o h
 unfold binK at h
 split at h
 ·obtain ⟨h1,h2⟩:=aa2 h
  simp at h1
  exact ⟨_,by simp only [binV];rw [if_neg (by omega)],fun K'=>by simp only [binK,E.ck];rw [show (!decide (_<(0:Int)))=true by simpa using h1];rfl⟩
 ·obtain ⟨h1,h2⟩:=aa2 h
  simp at h1
  exact ⟨_,by simp only [binV];rw [if_neg (by omega)],fun K'=>by simp only [binK,E.ck];rw [show (!decide (_<(0:Int)))=true by simpa using h1];rfl⟩
 ·split at h
  ·rename_i e;subst e
   obtain ⟨h1,h2⟩:=aa2 h
   simp at h1
   exact ⟨_,by simp only [binV,if_true,intOp];rw [if_neg h1],fun K'=>by simp only [binK,E.ck,if_true];rw [show (!decide (_=(0:Int)))=true by simpa using h1];rfl⟩
  ·cases h
 ·split at h
  ·rename_i e;subst e
   obtain ⟨h1,h2⟩:=aa2 h
   simp at h1
   exact ⟨_,by simp only [binV,if_true,intOp];rw [if_neg h1],fun K'=>by simp only [binK,E.ck,if_true];rw [show (!decide (_=(0:Int)))=true by simpa using h1];rfl⟩
  ·cases h
 ·obtain ⟨h1,h2⟩:=aa2 h
  have h2:=h1
  rw [Nat.ble_eq] at h1
  exact ⟨_,by simp only [binV,strOp];rw [if_pos h1],fun K'=>by simp only [binK,E.ck];rw [h2];rfl⟩
 ·obtain ⟨b,hb,h⟩:=Option.bind_eq_some_iff.1 h
  exact ⟨.bool b,by simp only [binV,eqVT_eq hb];rfl,fun K'=>by simp only [binK,hb];rfl⟩
 ·obtain ⟨b,hb,h⟩:=Option.bind_eq_some_iff.1 h
  exact ⟨.bool !b,by simp only [binV,eqVT_eq hb];rfl,fun K'=>by simp only [binK,hb];rfl⟩
 ·rename_i n1 n2 n3 n4 n5 n6 n7
  obtain ⟨r,hr,h⟩:=Option.bind_eq_some_iff.1 h
  refine ⟨r,hr,fun K'=>?_⟩
  unfold binK
  split
  ·exact absurd rfl (n1 _ _ _ _ rfl rfl)
  ·exact absurd rfl (n2 _ _ _ _ rfl rfl)
  ·exact absurd rfl (n3 _ _ _ _ rfl rfl)
  ·exact absurd rfl (n4 _ _ _ _ rfl rfl)
  ·exact absurd rfl (n5 _ _ rfl rfl)
  ·exact absurd rfl (n6 _ _ rfl rfl)
  ·exact absurd rfl (n7 _ _ rfl rfl)
  ·rw [hr];rfl
def bb0 (x:V)(K:Bool->R):R:=match x with | .nilif=>K true | .iface _ _=>K false | _=>none
def at0 (x:V)(K:Bool->R):R:=match x with | .nilptr=>K true | .obj _ _=>K false | .ref _=>K false | .loc _ _=>K false | _=>none
def bk0 :Operand->Bool | .const (.pointer none)=>true | _=>false
def aB2 (P:Program)(op:BinOp)(t:TypeId)(x y:V)(yo:Operand)(K:V->R):R:=
 match op,P.underlying t with
 | .eql,some (.interface _)=>bif aF1 yo then bb0 x fun b=>K (.bool b) else binK P op t x y K
 | .neq,some (.interface _)=>bif aF1 yo then bb0 x fun b=>K (.bool !b) else binK P op t x y K
 | .eql,some (.pointer _)=>bif bk0 yo then (match y with | .nilptr=>at0 x fun b=>K (.bool b) | _=>none) else binK P op t x y K
 | .neq,some (.pointer _)=>bif bk0 yo then (match y with | .nilptr=>at0 x fun b=>K (.bool !b) | _=>none) else binK P op t x y K
 | _,_=>binK P op t x y K
theorem nilIfK_s {x:V}{K:Bool->R}{o:Out}(h:bb0 x K=some o):(x=.nilif/\∀K',bb0 x K'=K' true)∨(∃t v,x=.iface t v/\∀K',bb0 x K'=K' false):=by
 cases x<;>first | exact .inl ⟨rfl,fun _=>rfl⟩ | exact .inr ⟨_,_,rfl,fun _=>rfl⟩ | cases h
theorem binOK_eq (P:Program)(op:BinOp)(t:TypeId)(x y:V)(yo:Operand)(hy:aF1 yo=true->y=.nilif):aa9 (binO P op t x y yo) (aB2 P op t x y yo):=by
 have plain:(∀K,aB2 P op t x y yo K=binK P op t x y K)->(as8 P op t x yo=none∨as8 P op t x yo≠none)->as8 P op t x yo=none->aa9 (binO P op t x y yo) (aB2 P op t x y yo):=by
  intro h1 _ h2 K o h
  rw [h1] at h
  obtain ⟨r,e1,e2⟩:=binK_eq P op t x y K o h
  exact ⟨r,by unfold binO;rw [h2];exact e1,fun K'=>by rw [h1];exact e2 K'⟩
 have noIf:(∀ms,P.underlying t≠some (.interface ms))->as8 P op t x yo=none:=by
  intro h
  unfold as8
  generalize P.underlying t=u at h
  cases u with
  | none=>rfl
  | some d=>cases d<;>first | rfl | exact absurd rfl (h _)
 cases hu:P.underlying t with
 | none=>exact plain (fun K=>by unfold aB2;rw [hu];cases op<;>rfl) (Classical.em _) (noIf (by rw [hu];simp))
 | some d=>
  cases d with
  | interface ms=>
   cases hn:aF1 yo with
   | false=>exact plain (fun K=>by unfold aB2;rw [hu,hn];cases op<;>rfl) (Classical.em _) (by unfold as8;rw [hu,hn];cases x<;>rfl)
   | true=>
    have hyv:=hy hn
    subst hyv
    have two:∀(F:Bool->Bool),(∀K,aB2 P op t x .nilif yo K=bb0 x fun b=>K (.bool (F b)))->(x=.nilif->as8 P op t x yo=some (.bool (F true)))->(∀t' v,x=.iface t' v->as8 P op t x yo=none/\binV P op t x .nilif=some (.bool (F false)))->aa9 (binO P op t x .nilif yo) (aB2 P op t x .nilif yo):=by
     intro F h1 h2 h3 K o h
     rw [h1] at h
     rcases nilIfK_s h with ⟨e,hk⟩ | ⟨t',v,e,hk⟩
     ·exact ⟨.bool (F true),by unfold binO;rw [h2 e],fun K'=>by rw [h1,hk]⟩
     ·obtain ⟨n1,n2⟩:=h3 t' v e
      exact ⟨.bool (F false),by unfold binO;rw [n1];exact n2,fun K'=>by rw [h1,hk]⟩
    cases op with
    | eql=>exact two id (fun K=>by unfold aB2;rw [hu,hn];rfl) (fun e=>by unfold as8;rw [hu,hn,e];rfl) (fun t' v e=>⟨by unfold as8;rw [hu,e],by subst e;simp only [binV,eqV,hu,eqB];rfl⟩)
    | neq=>exact two not (fun K=>by unfold aB2;rw [hu,hn];rfl) (fun e=>by unfold as8;rw [hu,hn,e];rfl) (fun t' v e=>⟨by unfold as8;rw [hu,e],by subst e;simp only [binV,eqV,hu,eqB];rfl⟩)
    | _=>exact plain (fun K=>by unfold aB2;rfl) (Classical.em _) (by unfold as8;rw [hu,hn];cases x<;>rfl)
  | pointer p=>
   have hno:=noIf (by rw [hu];simp)
   cases hn:bk0 yo with
   | false=>exact plain (fun K=>by cases op<;>simp only [aB2,hu,hn,cond_false]) (Classical.em _) hno
   | true=>
    have two:∀(F:Bool->Bool),(∀K,aB2 P op t x y yo K=(match y with | .nilptr=>at0 x fun b=>K (.bool (F b)) | _=>none))->(y=.nilptr->∀b,eqB P t x y=some b->binV P op t x y=some (.bool (F b)))->aa9 (binO P op t x y yo) (aB2 P op t x y yo):=by
     intro F h1 h2 K o h
     rw [h1] at h
     cases y with
     | nilptr=>
      simp only at h
      cases x<;>simp only [at0] at h<;>first
       | exact ⟨.bool (F true),by unfold binO;rw [hno];exact h2 rfl true (by simp only [eqB,hu]),fun K'=>by rw [h1];rfl⟩
       | exact ⟨.bool (F false),by unfold binO;rw [hno];exact h2 rfl false (by simp only [eqB,hu]),fun K'=>by rw [h1];rfl⟩
       | cases h
     | _=>cases h
    cases op with
    | eql=>exact two id (fun K=>by simp only [aB2,hu,hn,cond_true];cases y<;>rfl) (fun e b hb=>by subst e;cases x<;>simp only [eqB,hu,reduceCtorEq,Option.some.injEq] at hb<;>simp only [binV,eqV,hu,eqB]<;>subst hb<;>rfl)
    | neq=>exact two not (fun K=>by simp only [aB2,hu,hn,cond_true];cases y<;>rfl) (fun e b hb=>by subst e;cases x<;>simp only [eqB,hu,reduceCtorEq,Option.some.injEq] at hb<;>simp only [binV,eqV,hu,eqB]<;>subst hb<;>rfl)
    | _=>exact plain (fun K=>by unfold aB2;rfl) (Classical.em _) hno
  | _=>exact plain (fun K=>by unfold aB2;rw [hu];cases op<;>rfl) (Classical.em _) (noIf (by rw [hu];simp))
end Go.Proofs.YtnpjififnhjbbaaDoor.E
