/- It is proved of operations that are written once more, as functions that go on with a rest, that they are the evaluator's. No condition beyond the lemmas' own. -/
import Derived.Test.YtnpjififnhjbbaaDoorEXA
namespace Go.Proofs.YtnpjififnhjbbaaDoor.E
open Go
section
variable (P:Program) (H:ae2)
def oneK {α:Type}(l:List α)(K:α->R):R:=match l with | [x]=>K x | _=>none
def bB1 (t:TypeId)(cs:List V)(K:V->R):R:=ck (P.underlying t).isSome<|bif af4 P t then ck (ac5 cs) (K (.agg cs)) else oneK cs fun v=>ck v.good (K v)
def aY0 (f:FuncId)(dst:Nat)(t:TypeId)(p:V)(st:St)(K:(V×Tag)×St->R):R:=
 match p with
 | .obj id off=>ck (P.underlying t).isSome <|
  bif af4 P t then rdN st.s id off (P.cellsOf t) fun cs=>ay6 cs (K ((.agg cs,.no),st))
  else ck (P.cellsOf t==1)<|bif H.take f dst then rdT st.s id off (fun v=>K ((v,.no),st)) (fun v s'=>K ((v,.tok st.g),{st with g:=st.g+1,l:=st.g::st.l,s:=s'}))
  else rd1 st.s id off fun v=>K ((v,.no),st)
 | .ref cs=>ck (P.underlying t).isSome<|(taken (P.cellsOf t) cs).bind fun c=>bB1 P t c fun v=>K ((v,.no),st)
 | .loc i off=>ck (P.underlying t).isSome<|(st.a[i]?).bind fun box=>ck (!box.isEmpty)<|(taken (P.cellsOf t) (box.drop off)).bind fun c=>
  bif af4 P t then bB1 P t (c.map (·.1)) fun v=>K ((v,.no),st) else oneK c fun x=>K (x,st)
 | p=>(ak8 P H f dst t p st).bind K
def bs7 (t:TypeId)(p:V)(v:V×Tag)(st:St):Option St:=match p with
 | .loc i off=>(st.a[i]?).bind fun box=>ck (off+P.cellsOf t<=box.length) <|
  some {st with a:=st.a.set i (ae3 box off (spread v))}
 | .obj id off=>match st.s[id]? with
  | some (.box old)=>ck (off+P.cellsOf t<=old.length)<|match v.2 with
   | .tok g=>if v.1.good&&st.l.contains g then some {st with l:=st.l.filter (· !=g),s:=st.s.set id (.box (ae3 old off [(v.1,true)]))} else some {st with s:=st.s.set id (.box (ae3 old off (v.1.cells.map fun c=>(c,nilB c))))}
   | _=>some {st with s:=st.s.set id (.box (ae3 old off (v.1.cells.map fun c=>(c,flB v c))))}
  | _=>none
 | _=>none
def newBox1 (f:FuncId)(dst:Nat)(cs:List V)(st:St):Option ((V×Tag)×St):=match H.mode f dst with
 | 1=>some ((.ref cs,.no),st)
 | 2=>some ((.obj st.s.length 0,.no),{st with s:=st.s++[.box (cs.map fun c=>(c,nilB c))]})
 | _=>ck (!cs.isEmpty)<|match st.a[H.site f dst]? with | some []=>some ((.loc (H.site f dst) 0,.no),{st with a:=st.a.set (H.site f dst) (cs.map fun c=>(c,aV1 c))}) | _=>none
def aX6 (f:FuncId)(dst:Nat)(cs:List V)(st:St)(K:(V×Tag)×St->R):R:=(bv9 (H.cells f dst) cs).bind fun cs=>ck (ac5 cs) ((newBox1 H f dst cs st).bind K)
def aB7 (t:TypeId)(p:V)(v:V×Tag)(st:St)(K:(V×Tag)×St->R):R:=
 match p with
 | .obj id off=>ck (v.1.cells.length==P.cellsOf t&&ac5 v.1.cells&&P.cellsOf t !=0) <|
  match v.2 with
  | .tok g=>bif v.1.good&&st.l.contains g then wrO st.s id off [(v.1,true)] fun s'=>K ((.undef,.no),{st with l:=st.l.filter (· !=g),s:=s'})
   else wrO st.s id off (v.1.cells.map fun c=>(c,nilB c)) fun s'=>K ((.undef,.no),{st with s:=s'})
  | _=>wrO st.s id off (v.1.cells.map fun c=>(c,flB v c)) fun s'=>K ((.undef,.no),{st with s:=s'})
 | p=>ck (v.1.cells.length==P.cellsOf t&&ac5 v.1.cells&&P.cellsOf t !=0) (((bs7 P t p v st).map fun st=>((.undef,.no),st)).bind K)
def slT (op:BinOp)(t:TypeId)(yo:Operand):Option Bool:=match yo with
 | .const (.slice none 0 0)=>(match P.underlying t with
  | some (.slice _)=>(match op with | .eql=>some false | .neq=>some true | _=>none)
  | _=>none)
 | _=>none
def nilS :V->Option Bool | .list nn _ _=>some (!nn) | .slo _ _ _ _ _=>some false | _=>none
def clS (e:TypeId)(v:V)(s:List O):Option (List O):=match v with
 | .slo id off k n _=>(zeroV P e).bind fun z=>match s[id]? with
  | some (.box cs)=>ck (Nat.blt 0 (P.cellsOf e)&&k==P.cellsOf e&&z.cells.length==P.cellsOf e&&ac5 z.cells&&Nat.ble (off+n*k) cs.length) <|
   some (s.set id (.box (ae3 cs off ((List.replicate n z.cells).flatten.map fun c=>(c,nilB c)))))
  | _=>none
 | _=>none
def ptrB (n:Nat)(s:List O)(x y:V):Option Bool:=match x,y with
 | .obj i a,.obj j b=>bif Nat.beq n 0 then none else bif Nat.beq i j then some (a==b) else bif at2 s i&&at2 s j then some false else none
 | .nilptr,.nilptr=>some true
 | .nilptr,.obj _ _=>some false
 | .obj _ _,.nilptr=>some false
 | _,_=>none
def bq6 (place:Nat->Option ((Nat×Nat)×Bool))(cells:List V):List (Nat×V)->(List V->R)->R
 | [],K=>K cells
 | (i,v)::r,K=>(place i).bind fun p=>bif p.2 then ck (v.cells.length==p.1.2&&p.1.1+p.1.2<=cells.length&&ac5 v.cells) (bq6 place (ae3 cells p.1.1 v.cells) r K)
  else ck (p.1.2==1&&p.1.1+p.1.2<=cells.length) (ck v.good (bq6 place (ae3 cells p.1.1 [v]) r K))
def buildK (t:TypeId)(parts:List (Nat×V))(K:V->R):R:=
 (zeroV P t).bind fun z=>ck (ac5 z.cells) <|
 match P.underlying t with
 | some (.struct fs)=>ck (fs.toList.all fun f=>(P.info? f.type).isSome)<|bq6 (fun i=>(fs[i]?).map fun f=>((f.offset,P.cellsOf f.type),af4 P f.type)) z.cells parts fun cs=>K (.agg cs)
 | some (.array _ e)=>ck (P.info? e).isSome<|bq6 (fun i=>some ((i*P.cellsOf e,P.cellsOf e),af4 P e)) z.cells parts fun cs=>K (.agg cs)
 | _=>none
def aC0 (agg:Bool)(k:Nat)(es:List V):List (Nat×V)->(List V->R)->R
 | [],K=>K es
 | (i,v)::r,K=>bif agg then ck (i<es.length&&v.cells.length==k&&ac5 v.cells) (aC0 agg k (es.set i v) r K) else ck (i<es.length&&k==1) (ck v.good (aC0 agg k (es.set i v) r K))
def aW5 (p:V)(v:V×Tag)(st:St)(K:(V×Tag)×St->R):R:=match p with
 | .obj id off=>(match v.2 with
  | .tok g=>bif st.l.contains g then wrO st.s id off [(v.1,true)] fun s'=>K ((.undef,.no),{st with l:=st.l.filter (· !=g),s:=s'})
   else wrO st.s id off [(v.1,nilB v.1)] fun s'=>K ((.undef,.no),{st with s:=s'})
  | .full=>wrO st.s id off [(v.1,true)] fun s'=>K ((.undef,.no),{st with s:=s'})
  | .no=>wrO st.s id off [(v.1,nilB v.1)] fun s'=>K ((.undef,.no),{st with s:=s'}))
 | .loc i off=>(st.a[i]?).bind fun box=>ck (off+1<=box.length) (K ((.undef,.no),{st with a:=st.a.set i (ae3 box off [v])}))
 | _=>none
def aZ7 (t:TypeId)(p:V)(v:V×Tag)(st:St)(K:(V×Tag)×St->R):R:=
 bif af4 P t then aB7 P t p v st K else ck (P.cellsOf t==1)<|ck v.1.good (aW5 p v st K)
def bt3 (nn:Bool)(k:Nat)(es:List V)(tag:Tag)(lo hi mx:Option V)(K:V×Tag->R):R:=
 match mx with
 | some m=>(ap8 m).bind fun m=>(hi.bind ap8).bind fun h=>(au1 0 lo).bind fun l=>
  ck (decide (0<=l)&&(decide (l<=h)&&(decide (h<=m)&&decide (m<=es.length)))) (K (.list nn k ((es.take h.toNat).drop l.toNat),if h=m then .full else .no))
 | none=>(au1 es.length hi).bind fun h=>(au1 0 lo).bind fun l=>
  ck (decide (0<=l)&&(decide (l<=h)&&decide (h<=es.length))) (K (.list nn k ((es.take h.toNat).drop l.toNat),match hi with | none=>tag | _=>.no))
def bt2 (s:ByteArray)(lo hi:Option V)(K:V->R):R:=
 (au1 s.size hi).bind fun h=>(au1 0 lo).bind fun l=>ck (decide (0<=l)&&(decide (l<=h)&&decide (h<=s.size))) (K (.str (s.extract l.toNat h.toNat)))
def sliceK (t:TypeId)(x:V×Tag)(lo hi mx:Option V)(st:St)(K:(V×Tag)×St->R):R:=
 match P.underlying t,x with
 | some .string,(.str s,_)=>match mx with | none=>bt2 s lo hi fun v=>K ((v,.no),st) | _=>none
 | some (.slice e),(.list nn k es,tag)=>ck ((k==P.cellsOf e||!nn)&&(P.info? e).isSome)<|bt3 nn k es tag lo hi mx fun v=>K (v,st)
 | _,_=>none
def bk2 (t:TypeId)(x i:V)(K:V->R):R:=
 match P.underlying t,x,i with
 | some (.slice e),.list _ k es,.int _ i=>ck (k==P.cellsOf e&&P.cellsOf e !=0)<|idxK es i fun v=>K (.ref v.cells)
 | _,x,i=>(av5 P t x i).bind K
def idxA (cs:List V)(k n:Nat)(i:Int)(K:List V->R):R:=if 0<=i/\i<n then ay6 ((cs.drop (i.toNat*k)).take k) (K ((cs.drop (i.toNat*k)).take k)) else none
def indexK (t:TypeId)(x i:V)(K:V->R):R:=
 match P.underlying t,x,i with
 | some .string,.str s,.int _ i=>bc8 s i fun n=>K (.int .u8 n)
 | some (.array n e),.agg cs,.int _ i=>bif af4 P e then ck ((P.underlying e).isSome&&P.cellsOf e !=0) (idxA cs (P.cellsOf e) n i fun c=>K (.agg c))
  else ck ((P.underlying e).isSome&&!af4 P e&&P.cellsOf e==1&&decide (i<n))<|idxK cs i fun v=>ay6 [v] (K v)
 | _,x,i=>(aR9 P t x i).bind K
def tyK (x:V)(KI:TypeId->V->R)(KN:R):R:=match x with | .iface t v=>KI t v | .nilif=>KN | _=>none
def aT2 (x:V)(t:TypeId)(ok:Bool)(K:V->R):R:=
 match P.underlying t with
 | some (.interface _) | none=>none
 | _=>tyK x (fun t' v=>bif t'==t then K (if ok then .tup [v,.bool true] else v) else bif ok then (zeroV P t).bind fun z=>ck (as6 z) (K (.tup [z,.bool false])) else none)
   (bif ok then (zeroV P t).bind fun z=>ck (as6 z) (K (.tup [z,.bool false])) else none)
def bh4 (e:TypeId)(s:V×Tag)(x:V)(st:St)(K:(V×Tag)×St->R):R:=
 match s.1 with
 | .list nn k es=>
  (srcOf (P.cellsOf e) x).bind fun xs=>
  ck (k==P.cellsOf e||!nn)<|ck (Nat.blt 0 (P.cellsOf e)) <|
  (zeroV P e).bind fun z=>ck (z.cells.length==P.cellsOf e&&ac5 z.cells) <|
  ck (Nat.ble ((es.length+xs.length)*P.bytesOf e) 140737488355328&&Nat.ble (es.length+xs.length) 140737488355328) <|
   match s.2 with
   | .tok g=>ck (st.l.contains g) (K (fresh (.list (nn||!xs.isEmpty) (P.cellsOf e) (es++xs)) {st with l:=st.l.filter (· !=g)}))
   | .full=>K (fresh (.list (nn||!xs.isEmpty) (P.cellsOf e) (es++xs)) st)
   | .no=>ck (!nn) (K (fresh (.list (!xs.isEmpty) (P.cellsOf e) (es++xs)) st))
 | _=>none
def lenK (st:St)(t:TypeId)(x:V)(K:V->R):R:=
 match P.underlying t,x with
 | some (.map _ _),.map id=>mapK st.s id fun es _=>K (.int .i64 es.length)
 | _,x=>(lenV P st t x).bind K
def aX9 (t:TypeId)(m key:V)(ok:Bool)(st:St)(K:V->R):R:=
 match P.underlying t with
 | some (.map kt e)=>ck (aN7 P kt key)<|(zeroV P e).bind fun z=>ck (as6 z) <|
  match m with
  | .nilmap=>K (if ok then .tup [z,.bool false] else z)
  | .map id=>mapK st.s id fun es _=>ar6 key es fun r=>K (if ok then .tup [r.getD z,.bool r.isSome] else r.getD z)
  | _=>none
 | _=>none
def aX7 (t:TypeId)(m key x:V)(st:St)(K:(V×Tag)×St->R):R:=
 match P.underlying t,m with
 | some (.map kt _),.map id=>ck (aN7 P kt key&&(match x with | .undef | .loc _ _ | .tup _=>false | _=>true))<|mapK st.s id fun es c=>putK key x es fun es'=>
  K ((.undef,.no),{st with s:=st.s.set id (.map es' (if es'.length=es.length then c else c+1))})
 | _,_=>none
def bf2 (t:TypeId)(m key:V)(st:St)(K:(V×Tag)×St->R):R:=
 match P.underlying t,m with
 | some (.map kt e),.map id=>ck (aN7 P kt key)<|mapK st.s id fun es c=>(zeroV P e).bind fun z=>ck (as6 z)<|ar6 key es fun r=>putK key (r.getD z) es fun es'=>posK key es fun (i:Nat)=>
  K ((.tup [r.getD z,.int .i64 (i:Int)],.no),{st with s:=st.s.set id (.map es' (if es'.length=es.length then c else c+1))})
 | _,_=>none
def bg3 (m s x:V)(st:St)(K:(V×Tag)×St->R):R:=
 match m,s with
 | .map id,.int .i64 n=>ck (match x with | .undef | .loc _ _ | .tup _=>false | _=>true)<|mapK st.s id fun es c=>ck (decide (0<=n))<|kvK es n fun kv=>
  K ((.undef,.no),{st with s:=st.s.set id (.map (es.set n.toNat (kv.1,x)) c)})
 | _,_=>none
def bytesK (es:List V)(K:List UInt8->R):R:=match es.mapM bg8 with | some l=>K l | none=>none
def convK (src dst:TypeId)(x:V)(K:V->R):R:=
 match P.underlying src,P.underlying dst,x with
 | some (.slice e),some .string,.list _ _ es=>match P.underlying e with | some (.int .u8)=>bytesK es fun l=>K (.str ⟨l.toArray⟩) | _=>none
 | _,_,x=>(bz7 P src dst x).bind K
def aV3 (t:TypeId)(l c:V)(st:St)(K:(V×Tag)×St->R):R:=
 match P.underlying t with
 | some (.slice e)=>(ap8 l).bind fun l=>(ap8 c).bind fun c=>(zeroV P e).bind fun z=>
  ck (Nat.blt 0 (P.cellsOf e)&&z.cells.length==P.cellsOf e&&ac5 z.cells) <|
  ck (decide (0<=l)&&(decide (l<=c)&&(decide (c*P.bytesOf e<=140737488355328)&&decide (c<=140737488355328)))) (K (fresh (.list true (P.cellsOf e) (List.replicate l.toNat z)) st))
 | _=>none
def genP (f:FuncId):Operand->Bool | .tmp t=>Nat.beq (H.kind f t) 4 | _=>false
def genOp (f dst:Nat):Op->Bool
 | .load _ p=>genP H f p
 | .store _ p _=>genP H f p
 | .fieldAddr _ _ _=>H.take f dst
 | .indexAddr _ _ _=>H.take f dst
 | .slice _ _ _ _ _=>H.take f dst
 | .call c=>(match c.callee with | .builtin .len=>H.take f dst | .builtin .append=>H.take f dst | _=>false)
 | _=>false
def opK (f:FuncId)(dst:Nat)(op:Op)(st:St)(K:(V×Tag)×St->R):R:=
 match op with
 | .load t p=>aY0 P H f dst t (ev H st p).1 st K
 | .store t p x=>aZ7 P t (ev H st p).1 (ev H st x) st K
 | .build t parts=>buildK P t (parts.toList.map fun p=>(p.1,(ev H st p.2).1)) fun v=>K ((v,.no),st)
 | .buildSlice t n parts=>match P.underlying t with
  | some (.slice e)=>(zeroV P e).bind fun z=>ck (decide (0<P.cellsOf e)&&decide (n*P.cellsOf e<=16777216)&&z.cells.length==P.cellsOf e&&ac5 z.cells) <|
   aC0 (af4 P e) (P.cellsOf e) (List.replicate n z) (parts.toList.map fun p=>(p.1,(ev H st p.2).1)) fun es=>K (mkS (H.take f dst) (P.cellsOf e) es st)
  | _=>none
 | .box t x=>bif af4 P t then aX6 H f dst (ev H st x).1.cells st K else ck (ev H st x).1.good (aX6 H f dst [(ev H st x).1] st K)
 | .binOp op t x y _=>match ptrT P op t y with
  | some (n,neg)=>(ptrB n st.s (ev H st x).1 (ev H st y).1).bind fun b=>K ((.bool (bif neg then !b else b),.no),st)
  | none=>match slT P op t y with
   | some neg=>(nilS (ev H st x).1).bind fun b=>K ((.bool (bif neg then !b else b),.no),st)
   | none=>aB2 P op t (ev H st x).1 (ev H st y).1 y fun v=>K ((v,.no),st)
 | .nilCheck x=>match (ev H st x).1 with
  | .loc i o=>K ((.loc i o,.no),st) | .ref cs=>K ((.ref cs,.no),st) | v=>bd3 v fun i o=>K ((.obj i o,.no),st)
 | .convert s d x=>convK P s d (ev H st x).1 fun v=>K ((v,.no),st)
 | .slice t x lo hi mx=>sliceK P t (ev H st x) (lo.map fun o=>(ev H st o).1) (hi.map fun o=>(ev H st o).1) (mx.map fun o=>(ev H st o).1) st K
 | .indexAddr t x i=>bk2 P t (ev H st x).1 (ev H st i).1 fun v=>K ((v,.no),st)
 | .index t x i=>indexK P t (ev H st x).1 (ev H st i).1 fun v=>K ((v,.no),st)
 | .lookup t m k ok=>aX9 P t (ev H st m).1 (ev H st k).1 ok st fun v=>K ((v,.no),st)
 | .mapUpdate t m k x=>aX7 P t (ev H st m).1 (ev H st k).1 (ev H st x).1 st K
 | .insert t m k x=>aX7 P t (ev H st m).1 (ev H st k).1 (ev H st x).1 st K
 | .mapEntry t m k=>bf2 P t (ev H st m).1 (ev H st k).1 st K
 | .entryStore _ m s x=>bg3 (ev H st m).1 (ev H st s).1 (ev H st x).1 st K
 | .typeAssert x _ t ok=>aT2 P (ev H st x).1 t ok fun v=>K ((v,.no),st)
 | .makeSlice t l c=>aV3 P t (ev H st l).1 (ev H st c).1 st K
 | .call c=>match c.callee,c.args.toList with
  | .builtin .append,[s,x]=>bif H.take f dst then (opV P H f dst (.call c) st).bind K else (c.argTypes[0]?).bind fun t=>(c.argTypes[1]?).bind fun t2=>match P.underlying t,P.underlying t2 with | some (.slice e),some (.slice _) | some (.slice e),some .string=>bh4 P e (ev H st s) (ev H st x).1 st K | _,_=>none
  | .builtin .len,[x]=>(c.argTypes[0]?).bind fun t=>lenK P st t (ev H st x).1 fun v=>K ((v,.no),st)
  | .builtin .clear,[x]=>(c.argTypes[0]?).bind fun t=>match P.underlying t with
   | some (.slice e)=>(clS P e (ev H st x).1 st.s).bind fun s=>K ((.tup [],.no),{st with s:=s})
   | _=>none
  | _,_=>(opV P H f dst (.call c) st).bind K
 | op=>(opV P H f dst op st).bind K
end
section
variable {P:Program} {H:ae2}
theorem asVarK_s (t:TypeId)(cs:List V):aa9 (au8 P t cs) (bB1 P t cs):=by
 unfold au8 bB1
 refine aa9.ck _ ?_
 cases af4 P t with
 | true=>exact aa9.ck _ (fun K o h=>⟨_,rfl,fun _=>rfl⟩)
 | false=>
  intro K o h
  simp only [cond_false] at h
  match cs,h with
  | [v],h=>
   have hg:=(aa2 h).1
   refine ⟨v,by simp only [ck,hg,cond_true,Bool.false_eq_true,if_false],fun K'=>by simp only [cond_false,oneK,ck,hg,cond_true]⟩
  | [],h=>cases h
  | _::_::_,h=>cases h
theorem loadK_s (f:FuncId)(dst:Nat)(t:TypeId)(p:V)(st:St):aa9 (ak8 P H f dst t p st) (aY0 P H f dst t p st):=by
 cases p with
 | obj id off=>
  intro K o h
  unfold aY0 at h
  simp only at h
  obtain ⟨h1,h⟩:=aa2 h
  cases ha:af4 P t with
  | true=>
   rw [ha] at h
   simp only [cond_true,rdN] at h
   cases hs:st.s[id]? with
   | none=>rw [hs] at h;cases h
   | some ob=>cases ob with
    | map _ _=>rw [hs] at h;cases h
    | gone=>rw [hs] at h;cases h
    | loop _ _ _ _ _=>rw [hs] at h;cases h
    | box cs=>
     rw [hs] at h
     simp only at h
     cases ht:taken (P.cellsOf t) (cs.drop off) with
     | none=>rw [ht] at h;cases h
     | some c=>
      rw [ht] at h
      simp only [ay6] at h
      cases hg:ac5 (c.map (·.1)) with
      | false=>rw [hg] at h;cases h
      | true=>
       refine ⟨((.agg (c.map (·.1)),.no),st),?_,fun K'=>?_⟩
       ·simp only [ak8,ck,h1,hs,ht,ha,cond_true,Option.bind_some,au8,hg,if_true,Option.map_some]
       ·simp only [aY0,ck,h1,ha,cond_true,rdN,hs,ht,ay6,hg]
  | false=>
   rw [ha] at h
   simp only [cond_false] at h
   obtain ⟨h2,h⟩:=aa2 h
   have hn:P.cellsOf t=1:=by simpa using h2
   have one:∀(cs:List (V×Bool)) (x:V×Bool),cs[off]? =some x->taken 1 (cs.drop off)=some [x]:=by
    intro cs x hx
    have hlt:=(List.getElem?_eq_some_iff.1 hx).1
    unfold taken
    rw [if_pos (by simp;omega)]
    congr 1
    apply List.ext_getElem?
    intro j
    rw [List.getElem?_take]
    cases j with
    | zero=>simpa using hx
    | succ j=>simp
   cases htk:H.take f dst with
   | true=>
    rw [htk] at h
    simp only [cond_true,rdT] at h
    cases hs:st.s[id]? with
    | none=>rw [hs] at h;cases h
    | some ob=>cases ob with
     | map _ _=>rw [hs] at h;cases h
     | gone=>rw [hs] at h;cases h
     | loop _ _ _ _ _=>rw [hs] at h;cases h
     | box cs=>
      rw [hs] at h
      simp only at h
      cases hx:cs[off]? with
      | none=>rw [hx] at h;cases h
      | some x=>
       rw [hx] at h
       simp only at h
       cases hf:x.2 with
       | true=>
        refine ⟨((x.1,.tok st.g),{st with g:=st.g+1,l:=st.g::st.l,s:=st.s.set id (.box (cs.set off (x.1,false)))}),?_,fun K'=>?_⟩
        ·simp only [ak8,ck,h1,hs,hn,one cs x hx,ha,cond_true,Option.bind_some]
         rw [if_pos (by simp [hf,htk])]
        ·simp only [aY0,ck,h1,ha,cond_true,cond_false,h2,htk,rdT,hs,hx,hf]
       | false=>
        refine ⟨((x.1,.no),st),?_,fun K'=>?_⟩
        ·simp only [ak8,ck,h1,hs,hn,one cs x hx,ha,cond_true,Option.bind_some]
         rw [if_neg (by simp [hf])]
        ·simp only [aY0,ck,h1,ha,cond_true,cond_false,h2,htk,rdT,hs,hx,hf]
   | false=>
    rw [htk] at h
    simp only [cond_false,rd1] at h
    cases hs:st.s[id]? with
    | none=>rw [hs] at h;cases h
    | some ob=>cases ob with
     | map _ _=>rw [hs] at h;cases h
     | gone=>rw [hs] at h;cases h
     | loop _ _ _ _ _=>rw [hs] at h;cases h
     | box cs=>
      rw [hs] at h
      simp only at h
      cases hx:cs[off]? with
      | none=>rw [hx] at h;cases h
      | some x=>
       refine ⟨((x.1,.no),st),?_,fun K'=>?_⟩
       ·simp only [ak8,ck,h1,hs,hn,one cs x hx,ha,cond_true,Option.bind_some]
        rw [if_neg (by simp [htk])]
       ·simp only [aY0,ck,h1,ha,cond_true,cond_false,h2,htk,rd1,hs,hx]
 | ref cs=>
  unfold ak8 aY0
  refine aa9.ck _ ?_
  simp only
  cases taken (P.cellsOf t) cs with
  | none=>exact fun K o h=>by cases h
  | some c=>exact aa9.map (fun v=>((v,Tag.no),st)) (asVarK_s t c)
 | loc i off=>
  unfold ak8 aY0
  refine aa9.ck _ ?_
  simp only
  cases st.a[i]? with
  | none=>exact fun K o h=>by cases h
  | some box=>
   simp only [Option.bind_some]
   refine aa9.ck _ ?_
   cases taken (P.cellsOf t) (box.drop off) with
   | none=>exact fun K o h=>by cases h
   | some c=>
    simp only [Option.bind_some]
    cases af4 P t with
    | true=>
     intro K o h
     simp only [cond_true] at h
     obtain ⟨r,hr,hk⟩:=aa9.map (fun v=>((v,Tag.no),st)) (asVarK_s (P:=P) t (c.map (·.1))) K o h
     refine ⟨r,?_,fun K'=>hk K'⟩
     match c,hr with
     | [],hr=>exact hr
     | [_],hr=>exact hr
     | _::_::_,hr=>exact hr
    | false=>
     intro K o h
     simp only [cond_false] at h
     match c,h with
     | [x],h=>exact ⟨(x,st),rfl,fun _=>rfl⟩
     | [],h=>cases h
     | _::_::_,h=>cases h
 | _=>exact aa9.bind _
theorem wrO_s (s:List O)(id off:Nat)(new:List (V×Bool))(K:List O->R)(o:Out)(h:wrO s id off new K=some o):∃old,s[id]? =some (.box old)/\off+new.length<=old.length/\∀K':List O->R,wrO s id off new K'=K' (s.set id (.box (ae3 old off new))):=by
 unfold wrO at h
 split at h
 ·rename_i old hs
  cases hb:Nat.ble (off+new.length) old.length with
  | false=>rw [hb] at h;cases h
  | true=>
   have h2:=hb
   rw [Nat.ble_eq] at hb
   exact ⟨old,hs,hb,fun K'=>by unfold wrO;rw [hs];simp only [h2,cond_true]⟩
 ·cases h
theorem storeV_eq (t:TypeId)(p:V)(v:V×Tag)(st:St):at7 P t p v st=ck (v.1.cells.length==P.cellsOf t&&ac5 v.1.cells&&P.cellsOf t !=0) (bs7 P t p v st):=by
 unfold at7 bs7
 cases p<;>rfl
theorem ck_map {α β:Type}(c:Bool)(x:Option α)(g:α->β):(E.ck c x).map g=E.ck c (x.map g):=by cases c<;>rfl
theorem bw4 (f:FuncId)(dst:Nat)(cs:List V)(st:St):aa9 (aC3 H f dst cs st) (aX6 H f dst cs st):=by
 intro K o h
 unfold aX6 at h
 obtain ⟨cs',h1,h2⟩:=Option.bind_eq_some_iff.1 h
 obtain ⟨r,hr,hk⟩:=aa9.ck (ac5 cs') (aa9.bind (newBox1 H f dst cs' st)) K o h2
 refine ⟨r,?_,fun K'=>?_⟩
 ·unfold aC3
  rw [h1]
  exact hr
 ·unfold aX6
  rw [h1]
  exact hk K'
theorem bs8 (t:TypeId)(p:V)(v:V×Tag)(st:St):aa9 ((at7 P t p v st).map fun st=>((V.undef,Tag.no),st)) (aB7 P t p v st):=by
 cases p with
 | obj id off=>
  intro K o h
  unfold aB7 at h
  simp only at h
  obtain ⟨h1,h⟩:=aa2 h
  have hlen:v.1.cells.length=P.cellsOf t:=by simp only [Bool.and_eq_true,beq_iff_eq] at h1;exact h1.1.1
  have plain:∀(h:wrO st.s id off (v.1.cells.map fun c=>(c,flB v c)) (fun s'=>K ((V.undef,Tag.no),{st with s:=s'}))=some o) (hv:∀g,v.2=.tok g->(v.1.good&&st.l.contains g)=false),∃r,((at7 P t (.obj id off) v st).map fun st=>((V.undef,Tag.no),st))=some r/\∀K',aB7 P t (.obj id off) v st K'=K' r:=by
   intro h hv
   obtain ⟨old,hs,hle,hK⟩:=wrO_s _ _ _ _ _ _ h
   rw [List.length_map,hlen] at hle
   refine ⟨((.undef,.no),{st with s:=st.s.set id (.box (ae3 old off (v.1.cells.map fun c=>(c,flB v c))))}),?_,fun K'=>?_⟩
   ·simp only [at7,ck,h1,cond_true,hs,decide_eq_true hle]
    cases ht:v.2 with
    | tok g=>simp only;rw [if_neg (by rw [hv g ht];simp)];unfold flB;rw [ht];rfl
    | no=>rfl
    | full=>rfl
   ·simp only [aB7,ck,h1,cond_true]
    cases ht:v.2 with
    | tok g=>
     have e:(fun c=>(c,flB v c))=fun c=>(c,nilB c):=by funext c;simp only [flB,ht]
     simp only [hv g ht,cond_false,e]
     rw [e] at hK
     exact hK _
    | no=>exact hK _
    | full=>exact hK _
  cases ht:v.2 with
  | tok g=>
   rw [ht] at h
   simp only at h
   cases hc:(v.1.good&&st.l.contains g) with
   | true=>
    rw [hc] at h
    simp only [cond_true] at h
    obtain ⟨old,hs,hle,hK⟩:=wrO_s _ _ _ _ _ _ h
    have hg:v.1.good=true:=by rw [Bool.and_eq_true] at hc;exact hc.1
    have h1n:P.cellsOf t=1:=by rw [←hlen,aq0 hg];rfl
    have hle':off+P.cellsOf t<=old.length:=by rw [h1n];simpa using hle
    refine ⟨((.undef,.no),{st with l:=st.l.filter (· !=g),s:=st.s.set id (.box (ae3 old off [(v.1,true)]))}),?_,fun K'=>?_⟩
    ·simp only [at7,ck,h1,cond_true,hs,decide_eq_true hle',ht];rw [if_pos hc];rfl
    ·simp only [aB7,ck,h1,cond_true,ht,hc];exact hK _
   | false=>
    rw [hc] at h
    rw [show (fun c=>(c,nilB c))=fun c=>(c,flB v c) from by funext c;unfold flB;rw [ht]] at h
    exact plain h (fun g' e=>by rw [ht] at e;injection e with e;subst e;exact hc)
  | no=>rw [ht] at h;exact plain h (fun g' e=>by rw [ht] at e;cases e)
  | full=>rw [ht] at h;exact plain h (fun g' e=>by rw [ht] at e;cases e)
 | _=>rw [storeV_eq,ck_map];exact aa9.ck _ (aa9.bind _)
theorem bg1 (place:Nat->Option ((Nat×Nat)×Bool))(pl:Nat->Option (Nat×Nat))(hp:∀i,pl i=(place i).map (·.1)):∀(parts:List (Nat×V)) (cells:List V),aa9 (bg0 pl cells parts) (bq6 place cells parts)
 | [],cells=>fun K o h=>⟨cells,rfl,fun _=>rfl⟩
 | (i,v)::r,cells=>by
  intro K o h
  simp only [bq6] at h
  simp only [bg0,hp]
  cases hpi:place i with
  | none=>rw [hpi] at h;cases h
  | some p=>
   rw [hpi] at h
   simp only [Option.bind_some] at h
   simp only [Option.map_some,Option.bind_some,bq6,hpi]
   obtain ⟨⟨a,b⟩,c⟩:=p
   cases c with
   | true=>
    simp only [cond_true] at h ⊢
    obtain ⟨h1,h⟩:=aa2 h
    obtain ⟨cs,e1,e2⟩:=bg1 place pl hp r _ K o h
    refine ⟨cs,by simp only [ck,h1,cond_true];exact e1,fun K'=>by simp only [ck,h1,cond_true];exact e2 K'⟩
   | false=>
    simp only [cond_false] at h ⊢
    obtain ⟨h1,h⟩:=aa2 h
    obtain ⟨h2,h⟩:=aa2 h
    obtain ⟨cs,e1,e2⟩:=bg1 place pl hp r _ K o h
    have hc:=aq0 h2
    have h3:(v.cells.length==b&&a+b<=cells.length&&ac5 v.cells)=true:=by
     rw [hc]
     simp only [Bool.and_eq_true,beq_iff_eq] at h1 ⊢
     refine ⟨⟨h1.1.symm,h1.2⟩,by simp [ac5,h2]⟩
    refine ⟨cs,by simp only [ck,h3,cond_true];rw [hc];exact e1,fun K'=>by simp only [ck,h1,h2,cond_true];exact e2 K'⟩
theorem buildK_s (t:TypeId)(parts:List (Nat×V)):aa9 (bm9 P t parts) (buildK P t parts):=by
 unfold bm9 buildK
 cases zeroV P t with
 | none=>exact fun K o h=>by cases h
 | some z=>
  simp only [Option.bind_some]
  refine aa9.ck _ ?_
  cases P.underlying t with
  | none=>exact fun K o h=>by cases h
  | some d=>cases d with
   | struct fs=>
    refine aa9.ck _ ?_
    exact aa9.map V.agg (bg1 _ _ (fun i=>by cases fs[i]? <;>rfl) parts z.cells)
   | array n e=>
    refine aa9.ck _ ?_
    exact aa9.map V.agg (bg1 _ _ (fun i=>rfl) parts z.cells)
   | _=>exact fun K o h=>by cases h
theorem ay9 (agg:Bool)(k:Nat):∀(parts:List (Nat×V)) (es:List V),aa9 (at5 k es parts) (aC0 agg k es parts)
 | [],es=>fun K o h=>⟨es,rfl,fun _=>rfl⟩
 | (i,v)::r,es=>by
  intro K o h
  simp only [aC0] at h
  simp only [at5,aC0]
  cases agg with
  | true=>
   simp only [cond_true] at h ⊢
   obtain ⟨h1,h⟩:=aa2 h
   obtain ⟨cs,e1,e2⟩:=ay9 true k r _ K o h
   exact ⟨cs,by simp only [ck,h1,cond_true];exact e1,fun K'=>by simp only [ck,h1,cond_true];exact e2 K'⟩
  | false=>
   simp only [cond_false] at h ⊢
   obtain ⟨h1,h⟩:=aa2 h
   obtain ⟨h2,h⟩:=aa2 h
   obtain ⟨cs,e1,e2⟩:=ay9 false k r _ K o h
   have hc:=aq0 h2
   have h3:(decide (i<es.length)&&v.cells.length==k&&ac5 v.cells)=true:=by
    rw [hc]
    simp only [Bool.and_eq_true,beq_iff_eq] at h1 ⊢
    exact ⟨⟨h1.1,h1.2.symm⟩,by simp [ac5,h2]⟩
   exact ⟨cs,by simp only [ck,h3,cond_true];exact e1,fun K'=>by simp only [ck,h1,h2,cond_true];exact e2 K'⟩
theorem clearV_eq (e:TypeId)(v:V)(st:St):aH2 P e v st=(clS P e v st.s).map fun s=>((V.tup [],Tag.no),{st with s:=s}):=by
 unfold aH2 clS
 cases v with
 | slo id off k n c=>
  simp only
  cases zeroV P e with
  | none=>rfl
  | some z=>
   simp only [Option.bind_some]
   cases st.s[id]? with
   | none=>rfl
   | some o=>cases o with
    | box cs=>simp only;rw [ck_map];rfl
    | _=>rfl
 | _=>rfl
theorem nilS_s {op:BinOp}{t:TypeId}{yo:Operand}{neg:Bool}(h:slT P op t yo=some neg){x:V}{b:Bool}(hb:nilS x=some b)(s:List O)(st:St):
  av0 P op t s x (ev H st yo).1 yo=none/\binO P op t x (ev H st yo).1 yo=some (.bool (bif neg then !b else b)):=by
 unfold slT at h
 split at h
 ·split at h
  ·rename_i e hu
   have hev:(ev H st (.const (.slice none 0 0))).1=.list false 0 []:=rfl
   rw [hev]
   have key:∀op neg,(op=.eql/\neg=false∨op=.neq/\neg=true)->binO P op t x (.list false 0 []) (.const (.slice none 0 0))=some (.bool (bif neg then !b else b)):=by
    intro op neg ho
    have hn:as8 P op t x (.const (.slice none 0 0))=none:=by unfold as8;rw [hu]
    have he:eqV P t x (.list false 0 [])=some b:=by
     unfold eqV
     rw [hu]
     simp only
     unfold eqB
     rw [hu]
     cases x<;>simp only [nilS,reduceCtorEq,Option.some.injEq] at hb<;>subst hb<;>rfl
    unfold binO
    rw [hn]
    simp only
    cases x<;>simp only [nilS,reduceCtorEq] at hb<;>(rcases ho with ⟨rfl,rfl⟩ | ⟨rfl,rfl⟩<;>simp only [binV,he,Option.map_some,cond_true,cond_false])
   refine ⟨by unfold av0 ptrT;rfl,?_⟩
   split at h
   ·injection h with h;subst h;exact key _ _ (.inl ⟨rfl,rfl⟩)
   ·injection h with h;subst h;exact key _ _ (.inr ⟨rfl,rfl⟩)
   ·cases h
  ·cases h
 ·cases h
theorem ptrB_s {op:BinOp}{t:TypeId}{yo:Operand}{n:Nat}{neg:Bool}(hpt:ptrT P op t yo=some (n,neg)){s:List O}{x y:V}{b:Bool}(h:ptrB n s x y=some b):
  (match av0 P op t s x y yo with | some v=>some v | none=>binO P op t x y yo)=some (.bool (bif neg then !b else b)):=by
 obtain ⟨p,hu,rfl,hop⟩:=ptrT_is hpt
 have hn:∀x,as8 P op t x yo=none:=fun x=>by unfold as8;rw [hu]
 have hbin:∀{x y:V} {b:Bool},eqB P t x y=some b->(∀k n,x≠.int k n)->(∀s,x≠.str s)->binO P op t x y yo=some (.bool (bif neg then !b else b)):=by
  intro x y b he h1 h2
  have hv:eqV P t x y=some b:=by unfold eqV;rw [hu];exact he
  unfold binO
  rw [hn]
  simp only
  cases x with
  | int k n=>exact absurd rfl (h1 k n)
  | str s=>exact absurd rfl (h2 s)
  | _=>rcases hop with ⟨rfl,rfl⟩ | ⟨rfl,rfl⟩<;>simp only [binV,hv,Option.map_some,cond_true,cond_false]
 unfold ptrB at h
 split at h
 ·rename_i i a j c
  cases hz:Nat.beq (P.cellsOf p) 0 with
  | true=>rw [hz] at h;cases h
  | false=>
   rw [hz] at h
   simp only [cond_false] at h
   have hp0:P.cellsOf p≠0:=Nat.ne_of_beq_eq_false hz
   cases hij:Nat.beq i j with
   | true=>
    rw [hij] at h
    simp only [cond_true] at h
    have e:=Nat.eq_of_beq_eq_true hij
    subst e
    simp only [av0,hpt,Nat.beq_refl,Bool.not_true,Bool.false_and,cond_false]
    exact hbin (by unfold eqB;rw [hu];simp only [hp0,ne_eq,not_false_eq_true,and_self,if_true];exact h) (by intros;simp) (by intros;simp)
   | false=>
    rw [hij] at h
    simp only [cond_false] at h
    cases hl:(at2 s i&&at2 s j) with
    | false=>rw [hl] at h;cases h
    | true=>
     rw [hl] at h
     simp only [cond_true,Option.some.injEq] at h
     subst h
     simp only [Bool.and_eq_true] at hl
     simp only [av0,hpt,hij,hz,hl.1,hl.2,Bool.not_false,Bool.and_self,cond_true]
     cases neg<;>rfl
 ·injection h with h;subst h
  rw [show av0 P op t s .nilptr .nilptr yo=none from by unfold av0;rw [hpt]]
  exact hbin (by unfold eqB;rw [hu]) (by intros;simp) (by intros;simp)
 ·injection h with h;subst h
  rename_i i o
  rw [show av0 P op t s .nilptr (.obj i o) yo=none from by unfold av0;rw [hpt]]
  exact hbin (by unfold eqB;rw [hu]) (by intros;simp) (by intros;simp)
 ·injection h with h;subst h
  rename_i i o
  rw [show av0 P op t s (.obj i o) .nilptr yo=none from by unfold av0;rw [hpt]]
  exact hbin (by unfold eqB;rw [hu]) (by intros;simp) (by intros;simp)
 ·cases h
theorem storeK1_eq {t:TypeId}{p:V}{v:V×Tag}{st:St}(h1:(P.cellsOf t==1)=true)(hg:v.1.good=true){K:(V×Tag)×St->R}{o:Out}(h:aW5 p v st K=some o):∀K,aW5 p v st K=aB7 P t p v st K:=by
 intro K'
 have hc:=aq0 hg
 have hn:P.cellsOf t=1:=by simpa using h1
 have hck:(v.1.cells.length==P.cellsOf t&&ac5 v.1.cells&&P.cellsOf t !=0)=true:=by rw [hc,hn];simp [ac5,hg]
 cases p with
 | obj id off=>
  unfold aB7
  simp only
  rw [hck]
  simp only [aW5,ck,cond_true,hc,hg,Bool.true_and,List.map_cons,List.map_nil]
  unfold flB
  cases ht:v.2<;>simp only [hg,Bool.true_or]
 | loc i off=>
  unfold aB7
  simp only
  rw [hck]
  simp only [aW5,ck,cond_true,bs7,spread,hg,if_true,hn]
  cases st.a[i]? with
  | none=>rfl
  | some box=>
   simp only [Option.bind_some]
   cases decide (off+1<=box.length)<;>rfl
 | _=>cases h
theorem storeK_s (t:TypeId)(p:V)(v:V×Tag)(st:St):aa9 ((at7 P t p v st).map fun st=>((V.undef,Tag.no),st)) (aZ7 P t p v st):=by
 intro K o h
 unfold aZ7 at h
 cases ha:af4 P t with
 | true=>
  rw [ha] at h
  obtain ⟨r,hr,hk⟩:=bs8 t p v st K o h
  exact ⟨r,hr,fun K'=>by unfold aZ7;rw [ha];exact hk K'⟩
 | false=>
  rw [ha] at h
  simp only [cond_false] at h
  obtain ⟨h1,h⟩:=aa2 h
  obtain ⟨h2,h⟩:=aa2 h
  have e:=storeK1_eq (P:=P) h1 h2 h
  rw [e] at h
  obtain ⟨r,hr,hk⟩:=bs8 t p v st K o h
  exact ⟨r,hr,fun K'=>by unfold aZ7;rw [ha];simp only [cond_false,ck,h1,h2,cond_true];rw [e];exact hk K'⟩
theorem sliceLK_s (nn:Bool)(k:Nat)(es:List V)(tag:Tag)(lo hi mx:Option V):aa9 (aM7 nn k es tag lo hi mx) (bt3 nn k es tag lo hi mx):=by
 unfold aM7 bt3
 cases mx with
 | some m=>
  refine aa9.then (aa9.bind _) fun m=>aa9.then (aa9.bind _) fun h=>aa9.then (aa9.bind _) fun l=>?_
  refine (aa9.ck _ (aa9.some _)).weak fun r e=>?_
  obtain ⟨e1,e2⟩:=aa2 e
  simp only [Bool.and_eq_true,decide_eq_true_eq] at e1
  rw [if_pos e1];exact e2
 | none=>
  refine aa9.then (aa9.bind _) fun h=>aa9.then (aa9.bind _) fun l=>?_
  refine (aa9.ck _ (aa9.some _)).weak fun r e=>?_
  obtain ⟨e1,e2⟩:=aa2 e
  simp only [Bool.and_eq_true,decide_eq_true_eq] at e1
  rw [if_pos e1];exact e2
theorem sliceSK_s (s:ByteArray)(lo hi:Option V):aa9 (aZ9 s lo hi) (bt2 s lo hi):=by
 unfold aZ9 bt2
 refine aa9.then (aa9.bind _) fun h=>aa9.then (aa9.bind _) fun l=>?_
 refine (aa9.ck _ (aa9.some _)).weak fun r e=>?_
 obtain ⟨e1,e2⟩:=aa2 e
 simp only [Bool.and_eq_true,decide_eq_true_eq] at e1
 rw [if_pos e1];exact e2
theorem idxK_s (es:List V)(i:Int):aa9 (if 0<=i then es[i.toNat]? else none) (idxK es i):=by
 intro K o h
 unfold idxK at h ⊢
 split at h
 ·rename_i hi
  split at h
  ·rename_i v hv
   exact ⟨v,by rw [if_pos hi];exact hv,fun K'=>by simp only [if_pos hi]⟩
  ·cases h
 ·cases h
theorem idxAddrK_s (t:TypeId)(x i:V):aa9 (av5 P t x i) (bk2 P t x i):=by
 unfold bk2
 split
 ·rename_i e nn k es ki i hu
  refine (aa9.ck _ (aa9.map (fun v:V=>V.ref v.cells) (idxK_s es i))).weak fun r e=>?_
  obtain ⟨e1,e2⟩:=aa2 e
  obtain ⟨v,hv,rfl⟩:=Option.map_eq_some_iff.1 e2
  split at hv
  ·rename_i hi
   have hlt:=(List.getElem?_eq_some_iff.1 hv).1
   simp only [av5,ap8,Option.bind_some,hu,ck,e1,cond_true]
   rw [if_pos ⟨hi,by omega⟩,hv]
   rfl
  ·cases hv
 ·exact aa9.bind _
theorem indexK_s (t:TypeId)(x i:V):aa9 (aR9 P t x i) (indexK P t x i):=by
 unfold indexK
 split
 ·rename_i s ki i hu
  intro K o h
  unfold bc8 at h ⊢
  split at h
  ·rename_i hi
   split at h
   ·rename_i c hc
    have hlt:i.toNat<s.size:=by
     rcases Nat.lt_or_ge i.toNat s.size with q | q
     ·exact q
     ·rw [getElem?_neg s _ (by omega)] at hc;cases hc
    have hce:s[i.toNat]'hlt=c:=by rw [getElem?_pos s _ hlt] at hc;injection hc
    refine ⟨.int .u8 c.toNat,?_,fun K'=>by simp only [if_pos hi]⟩
    simp only [aR9,ap8,Option.bind_some,hu]
    rw [dif_pos ⟨hi,hlt⟩,hce]
   ·cases h
  ·cases h
 ·rename_i n e cs ki i hu
  cases hag:af4 P e with
  | true=>
   intro K o h
   simp only [cond_true] at h
   obtain ⟨h1,h⟩:=aa2 h
   simp only [Bool.and_eq_true] at h1
   unfold idxA at h
   split at h
   ·rename_i hi
    simp only [ay6] at h
    cases hg:ac5 ((cs.drop (i.toNat*P.cellsOf e)).take (P.cellsOf e)) with
    | false=>rw [hg] at h;cases h
    | true=>
     refine ⟨.agg ((cs.drop (i.toNat*P.cellsOf e)).take (P.cellsOf e)),?_,fun K'=>?_⟩
     ·simp only [aR9,ap8,Option.bind_some,hu,ck,h1.2,cond_true,if_pos hi,au8,h1.1,hag,if_true,hg]
     ·simp only [cond_true,ck,h1.1,h1.2,Bool.and_self,idxA,if_pos hi,ay6,hg]
   ·cases h
  | false=>
  simp only [cond_false]
  intro K o h
  obtain ⟨h1,h⟩:=aa2 h
  unfold idxK at h
  split at h
  ·rename_i hi
   split at h
   ·rename_i v hv
    simp only [ay6] at h
    cases hg:ac5 [v] with
    | false=>rw [hg] at h;cases h
    | true=>
     simp only [Bool.and_eq_true,decide_eq_true_eq,beq_iff_eq,Bool.not_eq_true'] at h1
     obtain ⟨⟨⟨u1,u2⟩,u3⟩,u4⟩:=h1
     refine ⟨v,?_,fun K'=>?_⟩
     ·simp only [aR9,ap8,Option.bind_some,hu,ck,u3]
      have hd:(cs.drop (i.toNat*1)).take 1=[v]:=by
       apply List.ext_getElem?
       intro j
       rw [List.getElem?_take]
       cases j with
       | zero=>simpa using hv
       | succ j=>simp
      rw [if_pos ⟨hi,u4⟩,hd]
      simp only [ac5,Bool.and_true] at hg
      simp [au8,ck,u1,hag,hg]
     ·simp only [ck,idxK,ay6,if_pos hi,hv,hg,u1,u3,decide_eq_true u4]
      rfl
   ·cases h
  ·cases h
 ·exact aa9.bind _
theorem bj7 (s:List O)(id:Nat)(K:List (V×V)->Nat->R)(o:Out)(h:mapK s id K=some o):∃es c,s[id]? =some (.map es c)/\∀K',mapK s id K'=K' es c:=by
 unfold mapK at h
 split at h
 ·rename_i es c hs;exact ⟨es,c,hs,fun K'=>by unfold mapK;rw [hs]⟩
 ·cases h
end
end Go.Proofs.YtnpjififnhjbbaaDoor.E
