/- It is proved of operations that are written once more, as functions that go on with a rest, that they are the evaluator's. No condition beyond the lemmas' own. -/
import Derived.Test.YtnpjififnhjbbaaDoorEXB
namespace Go.Proofs.YtnpjififnhjbbaaDoor.E
open Go
section
variable {P:Program} {H:ae2}
theorem findK_s (key:V)(es:List (V×V)):aa9 (aB1 key es) (ar6 key es):=by
 intro K o h
 unfold ar6 at h
 split at h
 ·rename_i r hr;exact ⟨r,hr,fun K'=>by unfold ar6;rw [hr]⟩
 ·cases h
theorem putK_s (key val:V)(es:List (V×V)):aa9 (putV key val es) (putK key val es):=by
 intro K o h
 unfold putK at h
 split at h
 ·rename_i r hr;exact ⟨r,hr,fun K'=>by unfold putK;rw [hr]⟩
 ·cases h
theorem zero_s {α:Type}(t:TypeId)(f:V->α):aa9 ((zeroV P t).bind fun z=>ck (as6 z) (some (f z))) (fun K=>(zeroV P t).bind fun z=>ck (as6 z) (K (f z))):=
 aa9.then (aa9.bind _) fun z=>aa9.ck _ (aa9.some _)
theorem assertK_s (f dst:Nat)(x:Operand)(xt t:TypeId)(ok:Bool)(st:St):aa9 (opV P H f dst (.typeAssert x xt t ok) st) (fun K=>aT2 P (ev H st x).1 t ok fun v=>K ((v,.no),st)):=by
 intro K o h
 unfold aT2 at h
 generalize hv:(ev H st x).1=v at h
 have key:∀d,P.underlying t=some d->(∀ms,d≠.interface ms) ->
   tyK v (fun t' v=>bif t'==t then K ((if ok then .tup [v,.bool true] else v,.no),st) else bif ok then (zeroV P t).bind fun z=>ck (as6 z) (K ((.tup [z,.bool false],.no),st)) else none) (bif ok then (zeroV P t).bind fun z=>ck (as6 z) (K ((.tup [z,.bool false],.no),st)) else none)=some o ->
   ∃r,opV P H f dst (.typeAssert x xt t ok) st=some r/\∀K':(V×Tag)×St->R,aT2 P v t ok (fun v=>K' ((v,.no),st))=K' r:=by
  intro d hd hni h
  have hA:∀K':(V×Tag)×St->R,aT2 P v t ok (fun v=>K' ((v,.no),st))=tyK v (fun t' v=>bif t'==t then K' ((if ok then .tup [v,.bool true] else v,.no),st) else bif ok then (zeroV P t).bind fun z=>ck (as6 z) (K' ((.tup [z,.bool false],.no),st)) else none) (bif ok then (zeroV P t).bind fun z=>ck (as6 z) (K' ((.tup [z,.bool false],.no),st)) else none):=by
   intro K'
   unfold aT2
   rw [hd]
   cases d<;>first | rfl | exact absurd rfl (hni _)
  have hO:∀t' u,v=.iface t' u->opV P H f dst (.typeAssert x xt t ok) st=(if t'=t then some (((if ok then .tup [u,.bool true] else u),.no),st) else if ok then (zeroV P t).bind fun z=>ck (as6 z) (some ((.tup [z,.bool false],.no),st)) else none):=by
   intro t' u e
   simp only [opV,hv,hd,e]
   cases d<;>first | rfl | exact absurd rfl (hni _)
  have hN:v=.nilif->opV P H f dst (.typeAssert x xt t ok) st=(if ok then (zeroV P t).bind fun z=>ck (as6 z) (some ((.tup [z,.bool false],.no),st)) else none):=by
   intro e
   simp only [opV,hv,hd,e]
   cases d<;>first | rfl | exact absurd rfl (hni _)
  unfold tyK at h hA
  have zz:=fun (K:(V×Tag)×St->R) (h:((zeroV P t).bind fun z=>ck (as6 z) (K ((.tup [z,.bool false],.no),st)))=some o)=>zero_s (P:=P) t (fun z=>(((V.tup [z,.bool false]:V),Tag.no),st)) K o h
  cases v with
  | iface t' u=>
   rw [hO t' u rfl]
   simp only at h hA ⊢
   by_cases e:t'=t
   ·subst e
    simp only [beq_self_eq_true,cond_true] at h hA
    exact ⟨_,if_pos rfl,hA⟩
   ·have:(t'==t)=false:=by simpa using e
    simp only [this,cond_false] at h hA
    rw [if_neg e]
    cases ok with
    | false=>simp at h
    | true=>
     simp only [cond_true] at h hA
     obtain ⟨r,h1,h2⟩:=zz K h
     exact ⟨r,by simpa using h1,fun K'=>(hA K').trans (h2 K')⟩
  | nilif=>
   rw [hN rfl]
   simp only at h hA ⊢
   cases ok with
   | false=>simp at h
   | true=>
    simp only [cond_true] at h hA
    obtain ⟨r,h1,h2⟩:=zz K h
    exact ⟨r,by simpa using h1,fun K'=>(hA K').trans (h2 K')⟩
  | _=>cases h
 split at h
 ·cases h
 ·cases h
 ·rename_i n1 n2
  cases hd:P.underlying t with
  | none=>exact absurd hd (by simpa using n2)
  | some d=>
   refine key d hd (fun ms e=>n1 ms (by rw [hd,e])) h
theorem bB3 (e:TypeId)(s:V×Tag)(x:V)(st:St):aa9 (ax4 P e s x st) (bh4 P e s x st):=by
 unfold ax4 bh4
 cases s.1 with
 | list nn k es=>
  refine aa9.then (aa9.bind _) fun xs=>aa9.ck _ ?_
  have hb:(decide (0<P.cellsOf e))=Nat.blt 0 (P.cellsOf e):=by
   rw [Bool.eq_iff_iff];simp
  rw [hb]
  refine aa9.ck _ (aa9.then (aa9.bind _) fun z=>aa9.ck _ ?_)
  refine (aa9.ck _ (x:=match s.2 with
   | .tok g=>if st.l.contains g then some (fresh (.list (nn||!xs.isEmpty) (P.cellsOf e) (es++xs)) {st with l:=st.l.filter (· !=g)}) else none
   | .full=>some (fresh (.list (nn||!xs.isEmpty) (P.cellsOf e) (es++xs)) st)
   | .no=>bif nn then none else some (fresh (.list (!xs.isEmpty) (P.cellsOf e) (es++xs)) st)) ?_).weak fun r q=>?_
  ·cases s.2 with
   | tok g=>
    refine (aa9.ck _ (aa9.some _)).weak fun r q=>?_
    obtain ⟨q1,q2⟩:=aa2 q
    simp only;rw [if_pos q1];exact q2
   | full=>exact aa9.some _
   | no=>
    refine (aa9.ck _ (aa9.some _)).weak fun r q=>?_
    obtain ⟨q1,q2⟩:=aa2 q
    have:nn=false:=by simpa using q1
    subst this
    exact q2
  ·obtain ⟨q1,q2⟩:=aa2 q
   simp only [Bool.and_eq_true,Nat.ble_eq] at q1
   rw [if_pos q1];exact q2
 | _=>exact aa9.none _
theorem lenK_s (st:St)(t:TypeId)(x:V):aa9 (lenV P st t x) (lenK P st t x):=by
 unfold lenK
 split
 ·rename_i a b id hu
  intro K o h
  obtain ⟨es,c,hs,hK⟩:=bj7 _ _ _ _ h
  refine ⟨.int .i64 es.length,?_,fun K'=>hK _⟩
  simp only [lenV,hu,mapOf,hs]
  rfl
 ·exact aa9.bind _
theorem lookupK_s (f dst:Nat)(t:TypeId)(m k:Operand)(ok:Bool)(st:St):aa9 (opV P H f dst (.lookup t m k ok) st) (fun K=>aX9 P t (ev H st m).1 (ev H st k).1 ok st fun v=>K ((v,.no),st)):=by
 intro K o h
 unfold aX9 at h
 split at h
 ·rename_i kt e hu
  obtain ⟨c1,h⟩:=aa2 h
  obtain ⟨z,hz,h⟩:=Option.bind_eq_some_iff.1 h
  obtain ⟨c2,h⟩:=aa2 h
  have hL:∀K':(V×Tag)×St->R,aX9 P t (ev H st m).1 (ev H st k).1 ok st (fun v=>K' ((v,.no),st))=(match (ev H st m).1 with
    | .nilmap=>K' ((if ok then .tup [z,.bool false] else z,.no),st)
    | .map id=>mapK st.s id fun es _=>ar6 (ev H st k).1 es fun r=>K' ((if ok then .tup [r.getD z,.bool r.isSome] else r.getD z,.no),st)
    | _=>none):=by
   intro K'
   unfold aX9
   rw [hu]
   simp only [ck,c1,cond_true,hz,Option.bind_some,c2]
   cases (ev H st m).1<;>rfl
  cases hm:(ev H st m).1 with
  | nilmap=>
   rw [hm] at h hL
   refine ⟨((if ok then .tup [z,.bool false] else z,.no),st),?_,fun K'=>?_⟩
   ·simp only [opV,hu,ck,c1,cond_true,hm,mapOf,Option.bind_some,aB1,hz,c2]
    rfl
   ·have:=hL K';simpa using this
  | map id=>
   rw [hm] at h hL
   simp only at h
   obtain ⟨es,c,hs,hK⟩:=bj7 _ _ _ _ h
   rw [hK] at h
   obtain ⟨r,hr,hF⟩:=findK_s _ _ _ _ h
   refine ⟨((if ok then .tup [r.getD z,.bool r.isSome] else r.getD z,.no),st),?_,fun K'=>?_⟩
   ·simp only [opV,hu,ck,c1,cond_true,hm,mapOf,hs,Option.bind_some,hr,hz,c2]
   ·have:=hL K'
    simp only at this
    rw [hK,hF] at this
    exact this
  | _=>rw [hm] at h;cases h
 ·cases h
theorem posK_s (key:V)(es:List (V×V)):aa9 (posV key es) (posK key es):=by
 intro K o h
 unfold posK at h
 split at h
 ·rename_i r hr;exact ⟨r,hr,fun K'=>by unfold posK;rw [hr]⟩
 ·cases h
theorem kvK_s (es:List (V×V))(n:Int):aa9 (es[n.toNat]?) (kvK es n):=by
 intro K o h
 unfold kvK at h
 split at h
 ·rename_i r hr;exact ⟨r,hr,fun K'=>by unfold kvK;rw [hr]⟩
 ·cases h
theorem mapEntK_s (t:TypeId)(m key:V)(st:St):aa9 (aC6 P st t m key) (bf2 P t m key st):=by
 intro K o h
 unfold bf2 at h
 split at h
 ·rename_i kt e id hu
  obtain ⟨c1,h⟩:=aa2 h
  obtain ⟨es,c,hs,hK⟩:=bj7 _ _ _ _ h
  rw [hK] at h
  obtain ⟨z,hz,h⟩:=Option.bind_eq_some_iff.1 h
  obtain ⟨c2,h⟩:=aa2 h
  obtain ⟨f0,hf,hF⟩:=findK_s _ _ _ _ h
  rw [hF] at h
  obtain ⟨es',hp,hP⟩:=putK_s _ _ _ _ _ h
  rw [hP] at h
  obtain ⟨i,hi,hI⟩:=posK_s _ _ _ _ h
  refine ⟨((.tup [f0.getD z,.int .i64 i],.no),{st with s:=st.s.set id (.map es' (if es'.length=es.length then c else c+1))}),?_,fun K'=>?_⟩
  ·unfold aC6
   rw [hu]
   simp only [mapOf,hs,Option.bind_some,hz,hf,hp,hi,Option.map_some,ck,c1,c2,cond_true]
  ·unfold bf2
   rw [hu]
   simp only [ck,c1,cond_true]
   rw [hK,hz]
   simp only [Option.bind_some,ck,c2,cond_true]
   rw [hF,hP,hI]
 ·cases h
theorem entSetK_s (m s x:V)(st:St):aa9 (aD2 st m s x) (bg3 m s x st):=by
 intro K o h
 unfold bg3 at h
 split at h
 ·rename_i id n
  obtain ⟨c1,h⟩:=aa2 h
  obtain ⟨es,c,hs,hK⟩:=bj7 _ _ _ _ h
  rw [hK] at h
  obtain ⟨c2,h⟩:=aa2 h
  obtain ⟨kv,hk,hV⟩:=kvK_s _ _ _ _ h
  refine ⟨((.undef,.no),{st with s:=st.s.set id (.map (es.set n.toNat (kv.1,x)) c)}),?_,fun K'=>?_⟩
  ·unfold aD2
   simp only [mapOf,hs,Option.bind_some,hk,Option.map_some,ck,c2,cond_true]
   exact (congrArg (fun b=>(bif b then _ else _:Option ((V×Tag)×St))) c1).trans rfl
  ·unfold bg3
   refine (congrArg (fun b=>ck b _) c1).trans ?_
   show mapK _ _ _=_
   rw [hK]
   simp only [ck,c2,cond_true]
   rw [hV]
 ·cases h
theorem bw8 (t:TypeId)(m key x:V)(st:St):aa9 (match P.underlying t,m with
  | some (.map kt _),.map id=>ck (aN7 P kt key&&(match x with | .undef | .loc _ _ | .tup _=>false | _=>true))<|(mapOf st (.map id)).bind fun es=>(putV key x es.1).map fun es'=>
   ((V.undef,Tag.no),({st with s:=st.s.set id (.map es' (if es'.length=es.1.length then es.2 else es.2+1))}:St))
  | _,_=>none) (aX7 P t m key x st):=by
 intro K o h
 unfold aX7 at h
 split at h
 ·rename_i kt e id hu
  obtain ⟨c1,h⟩:=aa2 h
  obtain ⟨es,c,hs,hK⟩:=bj7 _ _ _ _ h
  rw [hK] at h
  obtain ⟨es',hp,hP⟩:=putK_s _ _ _ _ _ h
  refine ⟨((.undef,.no),{st with s:=st.s.set id (.map es' (if es'.length=es.length then c else c+1))}),?_,fun K'=>?_⟩
  ·rw [hu]
   simp only [mapOf,hs,Option.bind_some,hp,Option.map_some]
   exact (congrArg (fun b=>ck b _) c1).trans rfl
  ·unfold aX7
   rw [hu]
   refine (congrArg (fun b=>ck b _) c1).trans ?_
   show mapK _ _ _=_
   rw [hK,hP]
 ·cases h
theorem convK_s (s d:TypeId)(x:V):aa9 (bz7 P s d x) (convK P s d x):=by
 unfold convK
 split
 ·rename_i e nn k es hs hd
  split
  ·rename_i he
   intro K o h
   unfold bytesK at h
   split at h
   ·rename_i l hl
    refine ⟨.str ⟨l.toArray⟩,?_,fun K'=>?_⟩
    ·simp only [bz7,hs,hd,he,hl,Option.map_some]
    ·simp only [bytesK,hl]
   ·cases h
  ·exact aa9.none _
 ·exact aa9.bind _
theorem makeSliceK_s (f dst:Nat)(t:TypeId)(l c:Operand)(st:St):aa9 (opV P H f dst (.makeSlice t l c) st) (aV3 P t (ev H st l).1 (ev H st c).1 st):=by
 unfold aV3
 simp only [opV]
 cases P.underlying t with
 | none=>exact aa9.none _
 | some d=>
  cases d<;>try exact aa9.none _
  rename_i e
  refine aa9.then (aa9.bind _) fun l=>aa9.then (aa9.bind _) fun c=>aa9.then (aa9.bind _) fun z=>?_
  have hb:(decide (0<P.cellsOf e))=Nat.blt 0 (P.cellsOf e):=by
   rw [Bool.eq_iff_iff];simp
  rw [hb]
  refine aa9.ck _ ((aa9.ck _ (aa9.some _)).weak fun r q=>?_)
  obtain ⟨q1,q2⟩:=aa2 q
  simp only [Bool.and_eq_true,decide_eq_true_eq] at q1
  rw [if_pos q1];exact q2
theorem sliceK_s (f dst:Nat)(t:TypeId)(x:Operand)(lo hi mx:Option Operand)(st:St)(htk:H.take f dst=false):aa9 (opV P H f dst (.slice t x lo hi mx) st) (sliceK P t (ev H st x) (lo.map fun o=>(ev H st o).1) (hi.map fun o=>(ev H st o).1) (mx.map fun o=>(ev H st o).1) st):=by
 unfold sliceK
 simp only [opV,htk,cond_false]
 obtain ⟨u,tag⟩:=ev H st x
 cases P.underlying t with
 | none=>exact aa9.none _
 | some d=>
  cases d<;>cases u<;>try exact aa9.none _
  ·cases mx with
   | none=>exact aa9.map _ (sliceSK_s _ _ _)
   | some m=>exact aa9.none _
  ·exact aa9.ck _ (aa9.map (fun v=>(v,st)) (sliceLK_s _ _ _ _ _ _ _))
theorem opK_s (f dst:Nat)(op:Op)(st:St)(hg:genOp H f dst op=false):aa9 (opV P H f dst op st) (opK P H f dst op st):=by
 cases op with
 | load t p=>exact loadK_s f dst t _ st
 | store t p x=>exact storeK_s t _ _ st
 | buildSlice t n parts=>
  intro K o h
  simp only [opK] at h
  cases hu:P.underlying t with
  | none=>rw [hu] at h;cases h
  | some d=>cases d with
   | slice e=>
    rw [hu] at h
    simp only at h
    obtain ⟨z,hz,h⟩:=Option.bind_eq_some_iff.1 h
    obtain ⟨h1,h⟩:=aa2 h
    obtain ⟨es,e1,e2⟩:=ay9 _ _ _ _ _ o h
    refine ⟨mkS (H.take f dst) (P.cellsOf e) es st,?_,fun K'=>?_⟩
    ·simp only [opV,hu,hz,Option.bind_some,ck,h1,cond_true,e1,Option.map_some]
    ·simp only [opK,hu,hz,Option.bind_some,ck,h1,cond_true]
     exact (ay9 _ _ _ _ _ o h).elim fun es' he'=>by
      obtain ⟨f1,f2⟩:=he'
      rw [e1] at f1
      cases f1
      obtain ⟨g,g1,g2⟩:=ay9 (af4 P e) (P.cellsOf e) (parts.toList.map fun p=>(p.1,(ev H st p.2).1)) (List.replicate n z) (fun es=>K (mkS (H.take f dst) (P.cellsOf e) es st)) o h
      rw [e1] at g1
      cases g1
      exact g2 _
   | _=>rw [hu] at h;cases h
 | build t parts=>exact aa9.map (fun v=>((v,Tag.no),st)) (buildK_s t _)
 | box t x=>
  intro K o h
  simp only [opK] at h
  cases ha:af4 P t with
  | true=>
   rw [ha] at h
   obtain ⟨r,hr,hk⟩:=bw4 f dst _ st K o h
   exact ⟨r,hr,fun K'=>by simp only [opK,ha,cond_true];exact hk K'⟩
  | false=>
   rw [ha] at h
   simp only [cond_false] at h
   obtain ⟨h1,h⟩:=aa2 h
   obtain ⟨r,hr,hk⟩:=bw4 f dst _ st K o h
   rw [←aq0 h1] at hr
   exact ⟨r,hr,fun K'=>by simp only [opK,ha,cond_false,ck,h1,cond_true];exact hk K'⟩
 | binOp op t x y t'=>
  cases hpt:ptrT P op t y with
  | some q=>
   obtain ⟨n,neg⟩:=q
   intro K o h
   simp only [opK,hpt] at h
   obtain ⟨b,hb,h⟩:=Option.bind_eq_some_iff.1 h
   have:=ptrB_s hpt hb
   refine ⟨((.bool (bif neg then !b else b),.no),st),?_,fun K'=>by simp only [opK,hpt,hb,Option.bind_some]⟩
   simp only [opV]
   split
   ·rename_i v hv
    rw [hv] at this
    simp only [Option.some.injEq] at this
    rw [this]
   ·rename_i hv
    rw [hv] at this
    simp only at this
    rw [this]
    rfl
  | none=>
  have hO:opV P H f dst (.binOp op t x y t') st=(binO P op t (ev H st x).1 (ev H st y).1 y).map fun v=>((v,.no),st):=by
   simp only [opV]
   have hn:av0 P op t st.s (ev H st x).1 (ev H st y).1 y=none:=by unfold av0;rw [hpt]
   rw [hn]
  cases hsl:slT P op t y with
  | some neg=>
   intro K o h
   simp only [opK,hpt,hsl] at h
   obtain ⟨b,hb,h⟩:=Option.bind_eq_some_iff.1 h
   have:=(nilS_s (P:=P) (H:=H) hsl hb st.s st).2
   exact ⟨((.bool (bif neg then !b else b),.no),st),by rw [hO,this];rfl,fun K'=>by simp only [opK,hpt,hsl,hb,Option.bind_some]⟩
  | none=>
  have hK:opK P H f dst (.binOp op t x y t') st=fun K=>aB2 P op t (ev H st x).1 (ev H st y).1 y fun v=>K ((v,.no),st):=by
   funext K
   simp only [opK,hpt,hsl]
  rw [hO,hK]
  refine aa9.map (fun v=>((v,Tag.no),st)) (binOK_eq P op t _ _ y fun hy=>?_)
  unfold aF1 at hy
  split at hy
  ·rfl
  ·cases hy
 | nilCheck x=>
  intro K o h
  simp only [opK] at h
  cases hv:(ev H st x).1 with
  | obj i o'=>exact ⟨((.obj i o',.no),st),by simp only [opV,hv],fun K'=>by simp only [opK,hv,bd3]⟩
  | loc i o'=>exact ⟨((.loc i o',.no),st),by simp only [opV,hv],fun K'=>by simp only [opK,hv]⟩
  | ref cs=>exact ⟨((.ref cs,.no),st),by simp only [opV,hv],fun K'=>by simp only [opK,hv]⟩
  | _=>rw [hv] at h;simp [bd3] at h
 | convert s d x=>exact aa9.map (fun v=>((v,Tag.no),st)) (convK_s s d _)
 | slice t x lo hi mx=>exact sliceK_s f dst t x lo hi mx st hg
 | indexAddr t x i=>exact aa9.map (fun v=>((v,Tag.no),st)) (idxAddrK_s t _ _)
 | index t x i=>exact aa9.map (fun v=>((v,Tag.no),st)) (indexK_s t _ _)
 | lookup t m k ok=>exact lookupK_s f dst t m k ok st
 | mapEntry t m k=>exact mapEntK_s t _ _ st
 | entryStore t m s x=>exact entSetK_s _ _ _ st
 | mapUpdate t m k x=>exact bw8 t _ _ _ st
 | insert t m k x=>exact bw8 t _ _ _ st
 | typeAssert x xt t ok=>exact assertK_s f dst x xt t ok st
 | makeSlice t l c=>exact makeSliceK_s f dst t l c st
 | call c=>
  intro K o h
  simp only [opK] at h
  split at h
  ·rename_i s x hc ha
   cases htk:H.take f dst with
   | true=>
    rw [htk] at h
    simp only [cond_true] at h
    obtain ⟨r,h1,h2⟩:=Option.bind_eq_some_iff.1 h
    refine ⟨r,h1,fun K'=>?_⟩
    simp only [opK,hc,ha,htk,cond_true]
    rw [h1];rfl
   | false=>
   rw [htk] at h
   simp only [cond_false] at h
   have hO:opV P H f dst (.call c) st=(c.argTypes[0]?).bind fun t=>(c.argTypes[1]?).bind fun t2=>match P.underlying t,P.underlying t2 with | some (.slice e),some (.slice _) | some (.slice e),some .string=>ax4 P e (ev H st s) (ev H st x).1 st | _,_=>none:=by
    simp only [opV,hc,ha,List.map_cons,List.map_nil,aj4,htk]
    rfl
   have S:aa9 (opV P H f dst (.call c) st) (fun K=>(c.argTypes[0]?).bind fun t=>(c.argTypes[1]?).bind fun t2=>match P.underlying t,P.underlying t2 with | some (.slice e),some (.slice _) | some (.slice e),some .string=>bh4 P e (ev H st s) (ev H st x).1 st K | _,_=>none):=by
    rw [hO]
    refine aa9.then (aa9.bind _) fun t=>aa9.then (aa9.bind _) fun t2=>?_
    split
    ·exact bB3 _ _ _ _
    ·exact bB3 _ _ _ _
    ·exact aa9.none _
   obtain ⟨r,h1,h2⟩:=S K o h
   exact ⟨r,h1,fun K'=>by simp only [opK,hc,ha,htk,cond_false];exact h2 K'⟩
  ·rename_i x hc ha
   have hO:opV P H f dst (.call c) st=(c.argTypes[0]?).bind fun t=>(lenV P st t (ev H st x).1).map fun v=>((v,Tag.no),st):=by
    simp only [opV,hc,ha,List.map_cons,List.map_nil,aj4]
   have S:aa9 (opV P H f dst (.call c) st) (fun K=>(c.argTypes[0]?).bind fun t=>lenK P st t (ev H st x).1 fun v=>K ((v,.no),st)):=by
    rw [hO]
    exact aa9.then (aa9.bind _) fun t=>aa9.map _ (lenK_s st t _)
   obtain ⟨r,h1,h2⟩:=S K o h
   exact ⟨r,h1,fun K'=>by simp only [opK,hc,ha];exact h2 K'⟩
  ·rename_i x hc ha
   have hO:opV P H f dst (.call c) st=(c.argTypes[0]?).bind fun t=>match P.underlying t with | some (.slice e)=>aH2 P e (ev H st x).1 st | _=>none:=by
    simp only [opV,hc,ha,List.map_cons,List.map_nil,aj4]
    rfl
   have S:aa9 (opV P H f dst (.call c) st) (fun K=>(c.argTypes[0]?).bind fun t=>match P.underlying t with | some (.slice e)=>(clS P e (ev H st x).1 st.s).bind fun s=>K ((.tup [],.no),{st with s:=s}) | _=>none):=by
    rw [hO]
    refine aa9.then (aa9.bind _) fun t=>?_
    split
    ·rw [clearV_eq];exact aa9.map _ (aa9.bind _)
    ·exact aa9.none _
   obtain ⟨r,h1,h2⟩:=S K o h
   exact ⟨r,h1,fun K'=>by simp only [opK,hc,ha];exact h2 K'⟩
  ·rename_i n1 n2 n3
   obtain ⟨r,h1,h2⟩:=Option.bind_eq_some_iff.1 h
   refine ⟨r,h1,fun K'=>?_⟩
   simp only [opK]
   rw [h1];rfl
 | _=>exact aa9.bind _
end
end Go.Proofs.YtnpjififnhjbbaaDoor.E
