/- It is proved of operations on slices of which nothing is known, written once more, that they are the evaluator's. No condition beyond the lemmas' own. -/
import Derived.Test.YtnpjififnhjbbaaDoorEXC
namespace Go.Proofs.YtnpjififnhjbbaaDoor.E
open Go
def ldV (s:List O)(p:V)(n:Nat):Option (List V):=match p with
 | .ref cs=>taken n cs
 | .obj id off=>(match s[id]? with
  | some (.box cs)=>(taken n (cs.drop off)).map fun c=>c.map (·.1)
  | _=>none)
 | _=>none
def ldA (s:List O)(p:V)(n:Nat)(K:List V->R):R:=match ldV s p n with | some c=>ay6 c (K c) | none=>none
def ld1 (s:List O)(p:V)(K:V->R):R:=match ldV s p 1 with | some [v]=>ay6 [v] (K v) | _=>none
def fldV (o:Nat):V->V
 | .ref cs=>.ref (cs.drop o)
 | .obj j p=>.obj j (p+o)
 | v=>v
def ixV (k:Nat)(v:V)(i:Int):Option V:=match v with
 | .slo id off k' n _=>if k'=k/\0<=i/\i<n then some (.obj id (off+i.toNat*k)) else none
 | .list _ k' es=>if k'=k/\0<=i/\i<es.length then (es[i.toNat]?).map fun v=>.ref v.cells else none
 | _=>none
def lnV :V->Option Int
 | .list _ _ es=>some es.length
 | .slo _ _ _ n _=>some n
 | _=>none
def slV (k:Nat)(v:V)(lo hi:Option V):Option V:=match v with
 | .list nn k' es=>bif k'==k||!nn then (aM7 nn k' es .no lo hi none).map (·.1) else none
 | .slo id off k' n c=>bif k'==k then (sloL id off k' n c lo hi none).map (·.1) else none
 | _=>none
def inS (s:List O):St:={t:=[],a:=[],g:=0,l:=[],s:=s,d:=[]}
def apS (K B:Nat)(s:List O)(v:V×Tag)(x:V):Option (V×List O):=(srcS (inS s) K x).bind fun xs=>match v with
 | (.slo id off k n c,_)=>(match s[id]? with
  | some (.box cs)=>ck (k==K) <|
   bif Nat.ble (n+xs.length) c&&Nat.ble (off+(n+xs.length)*k) cs.length then some (.slo id off k (n+xs.length) c,s.set id (.box (ae3 cs (off+n*k) ((xs.flatMap V.cells).map fun c=>(c,nilB c)))))
   else ck (off==0&&Nat.ble (n*k) cs.length&&Nat.blt 0 xs.length&&Nat.ble ((n+xs.length)*B) 140737488355328&&Nat.ble (n+xs.length) 140737488355328)
    (some (.slo s.length 0 k (n+xs.length) (n+xs.length),s.set id .gone++[.box (((chunks k n (cs.map (·.1))++xs).flatMap V.cells).map fun c=>(c,nilB c))]))
  | _=>none)
 | (.list nn k [],tag)=>ck (!nn||(match tag with | .full=>true | _=>false))<|(match xs with
  | []=>some (.list nn k [],s)
  | xs=>ck (Nat.ble (xs.length*B) 140737488355328&&Nat.ble xs.length 140737488355328) (some (.slo s.length 0 K xs.length xs.length,s++[.box ((xs.flatMap V.cells).map fun c=>(c,nilB c))])))
 | _=>none
section
variable (P:Program) (H:ae2)
def opG (f dst:Nat)(op:Op)(st:St)(K:(V×Tag)×St->R):R:=match op with
 | .load t p=>ck (P.underlying t).isSome<|ck (!H.take f dst)<|bif af4 P t then ldA st.s (ev H st p).1 (P.cellsOf t) fun c=>K ((.agg c,.no),st) else ck (P.cellsOf t==1) (ld1 st.s (ev H st p).1 fun v=>K ((v,.no),st))
 | .store t p x=>bd3 (ev H st p).1 fun i o=>aZ7 P t (.obj i o) (ev H st x) st K
 | .fieldAddr s x i=>(aw4 P s i).bind fun o=>ck (P.cellsOf o.2 !=0)<|ck (az2 (ev H st x).1) (K ((fldV o.1 (ev H st x).1,.no),st))
 | .indexAddr t x i=>match P.underlying t with
  | some (.slice e)=>ck (P.cellsOf e !=0)<|(ap8 (ev H st i).1).bind fun i=>(ixV (P.cellsOf e) (ev H st x).1 i).bind fun v=>K ((v,.no),st)
  | _=>none
 | .slice t x lo hi mx=>match P.underlying t,mx with
  | some (.slice e),none=>ck (P.info? e).isSome<|(slV (P.cellsOf e) (ev H st x).1 (lo.map fun o=>(ev H st o).1) (hi.map fun o=>(ev H st o).1)).bind fun v=>K ((v,.no),st)
  | _,_=>none
 | .call c=>match c.callee,c.args.toList with
  | .builtin .len,[x]=>(c.argTypes[0]?).bind fun t=>match P.underlying t with
   | some (.slice _)=>(lnV (ev H st x).1).bind fun n=>K ((.int .i64 n,.no),st)
   | _=>none
  | .builtin .append,[v,x]=>(c.argTypes[0]?).bind fun t=>(c.argTypes[1]?).bind fun t2=>match P.underlying t,P.underlying t2 with
   | some (.slice e),some (.slice _) | some (.slice e),some .string=>ck (Nat.blt 0 (P.cellsOf e))<|(zeroV P e).bind fun z=>ck (z.cells.length==P.cellsOf e&&ac5 z.cells) <|
    (apS (P.cellsOf e) (P.bytesOf e) st.s (ev H st v) (ev H st x).1).bind fun q=>K ((q.1,.no),{st with s:=q.2})
   | _,_=>none
  | _,_=>none
 | _=>none
def opKG (f dst:Nat)(op:Op)(st:St)(K:(V×Tag)×St->R):R:=bif genOp H f dst op then opG P H f dst op st K else opK P H f dst op st K
end
section
variable {P:Program} {H:ae2}
theorem ldV_load {f dst:Nat}{t:TypeId}{p:V}{st:St}(hu:(P.underlying t).isSome=true)(ht:H.take f dst=false){cs:List V}(h:ldV st.s p (P.cellsOf t)=some cs){v:V}(hv:au8 P t cs=some v):ak8 P H f dst t p st=some ((v,.no),st):=by
 unfold ldV at h
 split at h
 ·unfold ak8
  simp only [ck,hu,cond_true,h,Option.bind_some,hv,Option.map_some]
 ·rename_i id off
  split at h
  ·rename_i box hb
   obtain ⟨c,hc,rfl⟩:=Option.map_eq_some_iff.1 h
   unfold ak8
   simp only [ck,hu,cond_true,hb,hc,Option.bind_some]
   split
   ·rename_i x ha
    simp only [ht,Bool.and_false,Bool.false_eq_true,if_false]
    unfold au8 at hv
    obtain ⟨_,hv⟩:=aa2 hv
    simp only [ha,List.map_cons,List.map_nil,Bool.false_eq_true,if_false] at hv
    obtain ⟨_,hv⟩:=aa2 hv
    injection hv with hv
    rw [hv]
   ·simp only [hv,Option.map_some]
  ·cases h
 ·cases h
theorem apS_append {e:TypeId}{s:V×Tag}{x:V}{st:St}(hK:Nat.blt 0 (P.cellsOf e)=true){z:V}(hz:zeroV P e=some z)(hzc:(z.cells.length==P.cellsOf e&&ac5 z.cells)=true){q:V×List O}(h:apS (P.cellsOf e) (P.bytesOf e) st.s s x=some q):
  aA4 P true e s x st=some ((q.1,.no),{st with s:=q.2}):=by
 unfold apS at h
 obtain ⟨xs,hxs,h⟩:=Option.bind_eq_some_iff.1 h
 have hxs':srcS st (P.cellsOf e) x=some xs:=hxs
 unfold aA4
 simp only [cond_true]
 obtain ⟨sv,tag⟩:=s
 cases sv with
 | slo id off k n c=>
  simp only at h ⊢
  split at h
  ·rename_i cs hb
   have hck:=aa2 h
   clear h
   obtain ⟨hk,h⟩:=hck
   have hk':k=P.cellsOf e:=by simpa using hk
   cases hr:(Nat.ble (n+xs.length) c&&Nat.ble (off+(n+xs.length)*k) cs.length) with
   | true=>
    rw [hr] at h
    simp only [cond_true,Option.some.injEq] at h
    subst h
    have:aN5 P e id off k n c x st=some ((.slo id off k (n+xs.length) c,.no),{st with s:=st.s.set id (.box (ae3 cs (off+n*k) ((xs.flatMap V.cells).map fun c=>(c,nilB c))))}):=by
     unfold aN5
     rw [hxs']
     simp only [Option.bind_some,hb,ck,hK,hk,Bool.true_and,hr,cond_true]
    simp only [this,orElse]
   | false=>
    rw [hr] at h
    simp only [cond_false] at h
    have hck:=aa2 h
    clear h
    obtain ⟨hc,h⟩:=hck
    simp only [Option.some.injEq] at h
    subst h
    simp only [Bool.and_eq_true] at hc
    obtain ⟨⟨⟨⟨c1,c2⟩,c3⟩,c4⟩,c5⟩:=hc
    have h0:off=0:=by simpa using c1
    subst h0
    have h1:aN5 P e id 0 k n c x st=none:=by
     unfold aN5
     rw [hxs']
     simp only [Option.bind_some,hb,ck,hK,hk,Bool.true_and,hr,cond_false]
    have h2:aT9 st id 0 k n=some (chunks k n (cs.map (·.1))):=by
     unfold aT9
     simp only [hb,Nat.zero_add,ck,c2,cond_true,List.drop_zero]
    have:bb8 P e id 0 k n x st=some ((.slo st.s.length 0 k (n+xs.length) (n+xs.length),.no),{st with s:=st.s.set id .gone++[.box (((chunks k n (cs.map (·.1))++xs).flatMap V.cells).map fun c=>(c,nilB c))]}):=by
     unfold bb8
     rw [hxs']
     simp only [Option.bind_some,h2,ck,hK,hk,beq_self_eq_true,Bool.true_and,Bool.and_true,c3,c4,c5,cond_true,hz,hzc]
    simp only [h1,this,orElse]
  ·cases h
 | list nn k es=>
  cases es with
  | cons _ _=>cases h
  | nil=>
  simp only at h
  have hck:=aa2 h
  clear h
  obtain ⟨ht,h⟩:=hck
  have hn:newS P e nn k x st=some ((q.1,.no),{st with s:=q.2}):=by
   unfold newS
   rw [hxs']
   simp only [Option.bind_some,ck,hK,cond_true,hz,hzc]
   cases xs with
   | nil=>
    simp only [Option.some.injEq] at h ⊢
    subst h
    rfl
   | cons y ys=>
    simp only at h ⊢
    have hck:=aa2 h
    clear h
    obtain ⟨hb,h⟩:=hck
    simp only [Option.some.injEq] at h
    subst h
    rw [hb]
    rfl
  cases nn with
  | false=>exact hn
  | true=>
   cases tag with
   | full=>exact hn
   | no=>simp at ht
   | tok g=>simp at ht
 | _=>cases h
theorem opG_s (f dst:Nat)(op:Op)(st:St)(hg:genOp H f dst op=true):aa9 (opV P H f dst op st) (opG P H f dst op st):=by
 cases op with
 | load t p=>
  intro K o h
  simp only [opG] at h
  obtain ⟨hu,h1⟩:=aa2 h
  obtain ⟨ht,h2⟩:=aa2 h1
  have ht':H.take f dst=false:=by simpa using ht
  cases ha:af4 P t with
  | true=>
   rw [ha] at h2
   simp only [cond_true,ldA] at h2
   cases hl:ldV st.s (ev H st p).1 (P.cellsOf t) with
   | none=>rw [hl] at h2;cases h2
   | some c=>
    rw [hl] at h2
    simp only [ay6] at h2
    cases hgd:ac5 c with
    | false=>rw [hgd] at h2;cases h2
    | true=>
     rw [hgd] at h2
     refine ⟨((.agg c,.no),st),ldV_load hu ht' hl (by unfold au8;simp only [ck,hu,cond_true,ha,if_true,hgd]),fun K'=>?_⟩
     simp only [opG,ck,hu,ht,cond_true,ha,ldA,hl,ay6,hgd]
  | false=>
   rw [ha] at h2
   simp only [cond_false] at h2
   obtain ⟨hn,h3⟩:=aa2 h2
   have hn':P.cellsOf t=1:=by simpa using hn
   unfold ld1 at h3
   split at h3
   ·rename_i v hl
    simp only [ay6] at h3
    cases hgd:ac5 [v] with
    | false=>rw [hgd] at h3;cases h3
    | true=>
     have hgv:v.good=true:=by simpa [ac5] using hgd
     refine ⟨((v,.no),st),ldV_load hu ht' (by rw [hn'];exact hl) (by unfold au8;simp only [ck,hu,cond_true,ha,Bool.false_eq_true,if_false,hgv]),fun K'=>?_⟩
     simp only [opG,ck,hu,ht,cond_true,ha,cond_false,hn,ld1,hl,ay6,hgd]
   ·cases h3
 | store t p x=>
  intro K o h
  simp only [opG] at h
  unfold bd3 at h
  split at h
  ·rename_i i off hv
   obtain ⟨r,h1,h2⟩:=storeK_s t (.obj i off) (ev H st x) st K o h
   refine ⟨r,by simp only [opV,hv];exact h1,fun K'=>?_⟩
   simp only [opG,hv,bd3]
   exact h2 K'
  ·cases h
 | fieldAddr s x i=>
  intro K o h
  simp only [opG] at h
  obtain ⟨q,hq,h1⟩:=Option.bind_eq_some_iff.1 h
  obtain ⟨c1,h2⟩:=aa2 h1
  obtain ⟨c2,h3⟩:=aa2 h2
  refine ⟨((fldV q.1 (ev H st x).1,.no),st),?_,fun K'=>by simp only [opG,hq,Option.bind_some,ck,c1,c2,cond_true]⟩
  simp only [opV,hq,Option.bind_some,ck,c1,cond_true]
  cases hv:(ev H st x).1 with
  | ref cs=>rfl
  | obj j p=>rfl
  | _=>rw [hv] at c2;cases c2
 | indexAddr t x i=>
  intro K o h
  simp only [opG] at h
  split at h
  ·rename_i e he
   obtain ⟨c1,h1⟩:=aa2 h
   obtain ⟨n,hn,h2⟩:=Option.bind_eq_some_iff.1 h1
   obtain ⟨v,hv,h3⟩:=Option.bind_eq_some_iff.1 h2
   refine ⟨((v,.no),st),?_,fun K'=>by simp only [opG,he,ck,c1,cond_true,hn,hv,Option.bind_some]⟩
   simp only [opV,av5,hn,Option.bind_some,he]
   unfold ixV at hv
   split at hv
   ·rename_i id off k' m c hx
    split at hv
    ·rename_i hc
     rw [hx]
     obtain ⟨rfl,h0,h1'⟩:=hc
     simp only [beq_self_eq_true,Bool.true_and,ck,c1,cond_true,if_pos (And.intro h0 h1')]
     injection hv with hv
     rw [hv]
     rfl
    ·cases hv
   ·rename_i nn k' es hx
    split at hv
    ·rename_i hc
     rw [hx]
     obtain ⟨rfl,h0,h1'⟩:=hc
     simp only [beq_self_eq_true,Bool.true_and,ck,c1,cond_true,if_pos (And.intro h0 h1'),hv]
     rfl
    ·cases hv
   ·cases hv
  ·cases h
 | slice t x lo hi mx=>
  have htk:H.take f dst=true:=hg
  intro K o h
  simp only [opG] at h
  cases mx with
  | some m=>split at h<;>first | cases h | (rename_i hq;cases hq)
  | none=>
  split at h
  ·rename_i e he _
   obtain ⟨c1,h1⟩:=aa2 h
   obtain ⟨v,hv,h2⟩:=Option.bind_eq_some_iff.1 h1
   refine ⟨((v,.no),st),?_,fun K'=>by simp only [opG,he,ck,c1,cond_true,hv,Option.bind_some]⟩
   simp only [opV,he]
   generalize ev H st x=uu at hv ⊢
   obtain ⟨u,tag⟩:=uu
   unfold slV at hv
   simp only at hv
   split at hv
   ·rename_i nn k' es
    cases hk:(k'==P.cellsOf e||!nn) with
    | false=>rw [hk] at hv;cases hv
    | true=>
     rw [hk] at hv
     simp only [cond_true] at hv
     obtain ⟨q,hq,rfl⟩:=Option.map_eq_some_iff.1 hv
     have hq2:q.2=.no:=by
      simp only [aM7] at hq
      obtain ⟨a1,_,hq⟩:=Option.bind_eq_some_iff.1 hq
      obtain ⟨a2,_,hq⟩:=Option.bind_eq_some_iff.1 hq
      split at hq
      ·injection hq with hq
       rw [←hq]
       split<;>rfl
      ·cases hq
     simp only [hk,c1,Bool.true_and,ck,cond_true,htk,Option.map_none,hq,Option.map_some]
     rw [←hq2]
   ·rename_i id off k' n c
    cases hk:(k'==P.cellsOf e) with
    | false=>rw [hk] at hv;cases hv
    | true=>
     rw [hk] at hv
     simp only [cond_true] at hv
     obtain ⟨q,hq,rfl⟩:=Option.map_eq_some_iff.1 hv
     have hq2:q.2=.no:=by
      simp only [sloL] at hq
      obtain ⟨a1,_,hq⟩:=Option.bind_eq_some_iff.1 hq
      obtain ⟨a2,_,hq⟩:=Option.bind_eq_some_iff.1 hq
      split at hq
      ·injection hq with hq
       rw [←hq]
      ·cases hq
     simp only [hk,c1,Bool.true_and,ck,cond_true,Option.map_none,hq,Option.map_some]
     rw [←hq2]
   ·cases hv
  ·cases h
 | call c=>
  intro K o h
  simp only [opG] at h
  split at h
  ·rename_i x hc ha
   obtain ⟨t,ht,h1⟩:=Option.bind_eq_some_iff.1 h
   split at h1
   ·rename_i e he
    obtain ⟨n,hn,h2⟩:=Option.bind_eq_some_iff.1 h1
    refine ⟨((.int .i64 n,.no),st),?_,fun K'=>by simp only [opG,hc,ha,ht,Option.bind_some,he,hn]⟩
    simp only [opV,hc,ha,List.map_cons,List.map_nil,aj4,ht,Option.bind_some,lenV,he]
    unfold lnV at hn
    split at hn
    ·rename_i hx;rw [hx];injection hn with hn;rw [←hn];rfl
    ·rename_i hx;rw [hx];injection hn with hn;rw [←hn];rfl
    ·cases hn
   ·cases h1
  ·rename_i v x hc ha
   have htk:H.take f dst=true:=by
    have:=hg
    simp only [genOp,hc] at this
    exact this
   obtain ⟨t,ht,h1⟩:=Option.bind_eq_some_iff.1 h
   obtain ⟨t2,ht2,h2⟩:=Option.bind_eq_some_iff.1 h1
   have key:∀e,((∃e2,P.underlying t2=some (.slice e2))∨P.underlying t2=some .string)->P.underlying t=some (.slice e)->(ck (Nat.blt 0 (P.cellsOf e))<|(zeroV P e).bind fun z=>ck (z.cells.length==P.cellsOf e&&ac5 z.cells) <|
     (apS (P.cellsOf e) (P.bytesOf e) st.s (ev H st v) (ev H st x).1).bind fun q=>K ((q.1,.no),{st with s:=q.2}))=some o->∃r,opV P H f dst (.call c) st=some r/\∀K',opG P H f dst (.call c) st K'=K' r:=by
    intro e hd he hk
    obtain ⟨c1,hk1⟩:=aa2 hk
    obtain ⟨z,hz,hk2⟩:=Option.bind_eq_some_iff.1 hk1
    obtain ⟨c2,hk3⟩:=aa2 hk2
    obtain ⟨q,hq,hk4⟩:=Option.bind_eq_some_iff.1 hk3
    have hap:=apS_append (P:=P) c1 hz c2 hq
    refine ⟨((q.1,.no),{st with s:=q.2}),?_,fun K'=>?_⟩
    ·simp only [opV,hc,ha,List.map_cons,List.map_nil,aj4,ht,ht2,Option.bind_some,he,htk]
     rcases hd with ⟨e2,hd⟩ | hd<;>rw [hd]<;>exact hap
    ·simp only [opG,hc,ha,ht,ht2,Option.bind_some,he]
     rcases hd with ⟨e2,hd⟩ | hd<;>rw [hd]<;>simp only [ck,c1,cond_true,hz,Option.bind_some,c2,hq]
   split at h2
   ·rename_i e e2 he hd;exact key e (.inl ⟨e2,hd⟩) he h2
   ·rename_i e he hd;exact key e (.inr hd) he h2
   ·cases h2
  ·cases h
 | _=>cases hg
theorem opKG_s (f dst:Nat)(op:Op)(st:St):aa9 (opV P H f dst op st) (opKG P H f dst op st):=by
 unfold opKG
 cases hg:genOp H f dst op with
 | true=>exact opG_s f dst op st hg
 | false=>exact opK_s f dst op st hg
end
end Go.Proofs.YtnpjififnhjbbaaDoor.E
