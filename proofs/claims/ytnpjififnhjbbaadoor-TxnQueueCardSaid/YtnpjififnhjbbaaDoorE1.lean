/- Of an evaluator of the program's code over values without addresses: values, the evaluator, how a value stands for what lies in memory, and that reads do as told. No condition beyond the lemmas' own. -/
import Derived.WalkKit
import Derived.Below
import Derived.Defers
import Derived.OrdersIn
import Derived.LaidEql
namespace Go.Proofs.YtnpjififnhjbbaaDoor.E
open Go
inductive V :Type where
 | undef
 | bool (b:Bool)
 | int (k:IntKind) (n:Int)
 | str (s:ByteArray)
 | nilptr | nilmap | nilfunc | nilif
 | list (nn:Bool) (k:Nat) (es:List V)
 | agg (cs:List V)
 | tup (vs:List V)
 | ref (cs:List V)
 | obj (id off:Nat)
 | slo (id off k n c:Nat)
 | loc (i off:Nat)
 | map (id:Nat)
 | func (fn:Fn) (first cap:List V)
 | iface (t:TypeId) (v:V)
 | yld (id:Nat)
 deriving Inhabited
def V.cells :V->List V
 | .agg cs=>cs
 | v=>[v]
inductive Tag where
 | no | full | tok (g:Nat)
 deriving DecidableEq,Inhabited
inductive O where
 | box (cs:List (V×Bool))
 | map (es:List (V×V)) (clock:Nat)
 | gone
 | loop (f:FuncId) (ps:List Nat) (t:List V) (q:Nat) (pend:Option (Option Nat))
 deriving Inhabited
inductive Ex where
 | normal | exit (id:Nat) | ret | pan (v:V)
structure St where
 t:List (V×Tag)
 a:List (List (V×Tag))
 g:Nat
 l:List Nat
 s:List O
 d:List (FuncId×List V)
inductive Out where
 | ret (vs:List V) (s:List O)
 | pan (v:V) (s:List O)
inductive Sh where
 | any | bool | str | obj | map
 | int (k:IntKind) | list (k:Nat)
 | agg (l:List Sh) | ref (l:List Sh) | tup (l:List Sh)
mutual
def norm :Sh->V->Option V
 | .any,v=>some v
 | .bool,v=>match v with | .bool b=>some (.bool b) | _=>none
 | .str,v=>match v with | .str s=>some (.str s) | _=>none
 | .obj,v=>match v with | .obj i o=>some (.obj i o) | _=>none
 | .map,v=>match v with | .map i=>some (.map i) | _=>none
 | .int k,v=>match v with | .int k' n=>if k'=k then some (.int k n) else none | _=>none
 | .list k,v=>match v with
  | .list nn k' es=>if k'=k then some (.list nn k es) else match nn,es with | false,[]=>some (.list false k []) | _,_=>none
  | _=>none
 | .agg l,v=>match v with | .agg cs=>(aw1 l cs).map .agg | _=>none
 | .ref l,v=>match v with | .ref cs=>(aw1 l cs).map .ref | _=>none
 | .tup l,v=>match v with | .tup cs=>(aw1 l cs).map .tup | _=>none
def aw1 :List Sh->List V->Option (List V)
 | [],[]=>some []
 | s::l,v::r=>(norm s v).bind fun v'=>(aw1 l r).map (v'::·)
 | _,_=>none
end
inductive Spot where
 | slot (i:Nat) | cell (i j:Nat)
 deriving DecidableEq,Inhabited
structure Bhd where
 clear:List Nat:=[]
 drop:List Nat:=[]
 weak:List Spot:=[]
 frz:List (Spot×Option Nat):=[]
 keep:Option (List Spot):=none
structure ae2 where
 mode:FuncId->Nat->Nat
 take:FuncId->Nat->Bool
 br:FuncId->Nat->Bhd
 bc:FuncId->Nat->Bool->Bhd
 site:FuncId->Nat->Nat
 sites:FuncId->Nat
 own:FuncId->List Bool
 pure:FuncId->Bool
 meth:TypeId->String->Option FuncId
 glob:Nat->Option (List V)
 ok:FuncId->Bool
 shape:FuncId->Nat->Sh
 cells:FuncId->Nat->Option (List Sh)
 kind:FuncId->Nat->Nat
 ext:FuncId->Option (List V->Option V)
def aU9 :Value->V
 | .bool b=>.bool b
 | .int k n=>.int k n
 | .string s=>.str s
 | .pointer none=>.nilptr
 | .slice none 0 0=>.list false 0 []
 | .map none=>.nilmap
 | .nilFunc=>.nilfunc
 | .nilIface=>.nilif
 | .func fn first cap=>if first.size=0/\cap.size=0 then .func fn [] [] else .undef
 | _=>.undef
def ofConst :Value->V
 | .agg cs=>if (cs.toList.map aU9).all (fun v=>match v with | .undef=>false | _=>true) then .agg (cs.toList.map aU9) else .undef
 | v=>aU9 v
def bm2 :Value->Tag
 | .slice none 0 0=>.full
 | _=>.no
def ck {α:Type}(b:Bool)(x:Option α):Option α:=bif b then x else none
section
variable (P:Program) (H:ae2)
def ev (st:St):Operand->V×Tag
 | .tmp t=>st.t.getD t (.undef,.no)
 | .const v=>(ofConst v,bm2 v)
 | .global g=>match H.glob g with | some cs=>(.ref cs,.no) | none=>(.undef,.no)
 | .func f=>(.func (.func f) [] [],.no)
def evs (st:St)(l:List Operand):List V:=l.map fun o=>(ev H st o).1
def af4 (t:TypeId):Bool:=match P.underlying t with | some (.struct _) | some (.array _ _)=>true | _=>false
def zeroV (t:TypeId):Option V:=((P.info? t).bind (·.zero)).map ofConst
def aw4 (s:TypeId)(f:Nat):Option (Nat×TypeId):=match P.underlying s with | some (.struct fs)=>(fs[f]?).map fun x=>(x.offset,x.type) | _=>none
def V.good :V->Bool
 | .undef | .loc _ _ | .agg _ | .tup _=>false
 | _=>true
def ac5 :List V->Bool
 | []=>true
 | v::r=>v.good&&ac5 r
def au8 (t:TypeId)(cs:List V):Option V:=
 ck (P.underlying t).isSome<|if af4 P t then ck (ac5 cs) (some (.agg cs)) else match cs with | [v]=>ck v.good (some v) | _=>none
def taken {α:Type}(n:Nat)(l:List α):Option (List α):=if n<=l.length then some (l.take n) else none
def ak8 (f:FuncId)(dst:Nat)(t:TypeId)(p:V)(st:St):Option ((V×Tag)×St):=
 let n:=P.cellsOf t
 ck (P.underlying t).isSome <|
 match p with
 | .ref cs=>(taken n cs).bind fun c=>(au8 P t c).map fun v=>((v,.no),st)
 | .loc i off=>(st.a[i]?).bind fun box=>ck (!box.isEmpty)<|(taken n (box.drop off)).bind fun c=>
  match af4 P t,c with
  | false,[x]=>some (x,st)
  | _,c=>(au8 P t (c.map (·.1))).map fun v=>((v,.no),st)
 | .obj id off=>match st.s[id]? with
  | some (.box cs)=>(taken n (cs.drop off)).bind fun c=>
   match af4 P t,c with
   | false,[x]=>if x.2&&H.take f dst then some ((x.1,.tok st.g),{st with g:=st.g+1,l:=st.g::st.l,s:=st.s.set id (.box (cs.set off (x.1,false)))}) else some ((x.1,.no),st)
   | _,c=>(au8 P t (c.map (·.1))).map fun v=>((v,.no),st)
  | _=>none
 | _=>none
def ae3 {α:Type}(l:List α)(off:Nat)(xs:List α):List α:=l.take off++xs++l.drop (off+xs.length)
def nilB :V->Bool | .list false _ []=>true | _=>false
def flB (v:V×Tag)(c:V):Bool:=match v.2 with | .full=>v.1.good||nilB c | _=>nilB c
def aV1 (v:V):Tag:=bif nilB v then .full else .no
def spread (v:V×Tag):List (V×Tag):=if v.1.good then [v] else v.1.cells.map fun c=>(c,aV1 c)
def at7 (t:TypeId)(p:V)(v:V×Tag)(st:St):Option St:=
 let n:=P.cellsOf t
 let cs:=v.1.cells
 ck (cs.length==n&&ac5 cs&&n !=0) <|
 match p with
 | .loc i off=>(st.a[i]?).bind fun box=>ck (off+n<=box.length) <|
  some {st with a:=st.a.set i (ae3 box off (spread v))}
 | .obj id off=>match st.s[id]? with
  | some (.box old)=>ck (off+n<=old.length)<|match v.2 with
   | .tok g=>if v.1.good&&st.l.contains g then some {st with l:=st.l.filter (· !=g),s:=st.s.set id (.box (ae3 old off [(v.1,true)]))} else some {st with s:=st.s.set id (.box (ae3 old off (v.1.cells.map fun c=>(c,nilB c))))}
   | _=>some {st with s:=st.s.set id (.box (ae3 old off (v.1.cells.map fun c=>(c,flB v c))))}
  | _=>none
 | _=>none
def aT7 (i:Nat):List (V×Tag)->Bool
 | []=>true
 | (.loc j _,_)::r=>j !=i&&aT7 i r
 | _::r=>aT7 i r
def aE8 (f:FuncId)(dst:Nat)(cs:List V)(st:St):Option ((V×Tag)×St):=
 ck (ac5 cs)<|match H.mode f dst with
 | 1=>some ((.ref cs,.no),st)
 | 2=>some ((.obj st.s.length 0,.no),{st with s:=st.s++[.box (cs.map fun c=>(c,nilB c))]})
 | _=>ck (!cs.isEmpty)<|match st.a[H.site f dst]? with | some []=>some ((.loc (H.site f dst) 0,.no),{st with a:=st.a.set (H.site f dst) (cs.map fun c=>(c,aV1 c))}) | _=>none
def bv9 :Option (List Sh)->List V->Option (List V) | none,cs=>some cs | some l,cs=>aw1 l cs
def aC3 (f:FuncId)(dst:Nat)(cs:List V)(st:St):Option ((V×Tag)×St):=(bv9 (H.cells f dst) cs).bind fun cs=>aE8 H f dst cs st
def intOp (op:BinOp)(k:IntKind)(x y:Int):Option V:=
 match op with
 | .add=>some (.int k (k.wrap (x+y)))
 | .sub=>some (.int k (k.wrap (x-y)))
 | .mul=>some (.int k (k.wrap (x*y)))
 | .quo=>if y=0 then none else some (.int k (k.wrap (x.tdiv y)))
 | .rem=>if y=0 then none else some (.int k (x.tmod y))
 | .and=>some (.int k (k.wrap (BitVec.ofInt k.bits x &&& BitVec.ofInt k.bits y).toNat))
 | .or=>some (.int k (k.wrap (BitVec.ofInt k.bits x ||| BitVec.ofInt k.bits y).toNat))
 | .xor=>some (.int k (k.wrap (BitVec.ofInt k.bits x ^^^ BitVec.ofInt k.bits y).toNat))
 | .andNot=>some (.int k (k.wrap (BitVec.ofInt k.bits x &&& ~~~ BitVec.ofInt k.bits y).toNat))
 | .eql=>some (.bool (x==y))
 | .neq=>some (.bool (x !=y))
 | .lss=>some (.bool (x<y))
 | .leq=>some (.bool (x<=y))
 | .gtr=>some (.bool (x>y))
 | .geq=>some (.bool (x>=y))
 | _=>none
def strOp (op:BinOp)(x y:ByteArray):Option V:=
 match op with
 | .add=>if x.size+y.size<=9223372036854775807 then some (.str (x++y)) else none
 | .eql=>some (.bool (x.toList==y.toList))
 | .neq=>some (.bool !(x.toList==y.toList))
 | .lss=>some (.bool (Op.bytesLess x.toList y.toList))
 | .leq=>some (.bool (Op.bytesLess x.toList y.toList||x.toList==y.toList))
 | .gtr=>some (.bool !(Op.bytesLess x.toList y.toList||x.toList==y.toList))
 | .geq=>some (.bool !(Op.bytesLess x.toList y.toList))
 | _=>none
def fnB (f g:Fn):Bool:=decide (f=g)
mutual
def beqV :V->V->Bool
 | .undef,.undef=>true
 | .bool a,.bool b=>a==b
 | .int k a,.int k' b=>decide (k=k')&&a==b
 | .str a,.str b=>decide (a=b)
 | .nilptr,.nilptr | .nilmap,.nilmap | .nilfunc,.nilfunc | .nilif,.nilif=>true
 | .list n k es,.list n' k' es'=>n==n'&&k==k'&&aH5 es es'
 | .agg a,.agg b=>aH5 a b
 | .tup a,.tup b=>aH5 a b
 | .ref a,.ref b=>aH5 a b
 | .obj a b,.obj c d=>a==c&&b==d
 | .slo a b c d e,.slo a' b' c' d' e'=>a==a'&&b==b'&&c==c'&&d==d'&&e==e'
 | .loc a b,.loc c d=>a==c&&b==d
 | .map a,.map b=>a==b
 | .func f a b,.func g c d=>fnB f g&&aH5 a c&&aH5 b d
 | .iface t v,.iface t' v'=>t==t'&&beqV v v'
 | .yld a,.yld b=>a==b
 | _,_=>false
def aH5 :List V->List V->Bool
 | [],[]=>true
 | v::r,v'::r'=>beqV v v'&&aH5 r r'
 | _,_=>false
end
def beqC :List (V×Bool)->List (V×Bool)->Bool
 | [],[]=>true
 | v::r,v'::r'=>beqV v.1 v'.1&&v.2==v'.2&&beqC r r'
 | _,_=>false
def beqE :List (V×V)->List (V×V)->Bool
 | [],[]=>true
 | v::r,v'::r'=>beqV v.1 v'.1&&beqV v.2 v'.2&&beqE r r'
 | _,_=>false
def beqO :O->O->Bool
 | .box a,.box b=>beqC a b
 | .map a n,.map b m=>beqE a b&&n==m
 | .gone,.gone=>true
 | .loop f ps t q pend,.loop f' ps' t' q' pend'=>f==f'&&ps==ps'&&aH5 t t'&&q==q'&&pend==pend'
 | _,_=>false
def bd1 :List O->List O->Bool
 | [],[]=>true
 | v::r,v'::r'=>beqO v v'&&bd1 r r'
 | _,_=>false
def bd0 :Out->Out->Bool
 | .ret a s,.ret b s'=>aH5 a b&&bd1 s s'
 | .pan a s,.pan b s'=>beqV a b&&bd1 s s'
 | _,_=>false
def both (x y:Option Out):Option Out:=match x,y with
 | some a,some b=>bif bd0 a b then some a else none
 | _,_=>none
def as4 :List (Option Out)->Option Out
 | []=>none
 | [x]=>x
 | x::r=>both x (as4 r)
end
end Go.Proofs.YtnpjififnhjbbaaDoor.E
namespace Go.Proofs.YtnpjififnhjbbaaDoor.E
open Go
mutual
def aj2 :V->Bool
 | .undef | .obj _ _ | .slo _ _ _ _ _ | .loc _ _ | .map _ | .yld _=>false
 | .list _ _ es=>ac0 es
 | .agg cs=>ac0 cs
 | .tup vs=>ac0 vs
 | .ref cs=>ac0 cs
 | .func _ a b=>ac0 a&&ac0 b
 | .iface _ v=>aj2 v
 | _=>true
def ac0 :List V->Bool
 | []=>true
 | v::r=>aj2 v&&ac0 r
end
section
variable (P:Program) (H:ae2)
def eqB (t:TypeId)(x y:V):Option Bool:=
 match P.underlying t,x,y with
 | some .bool,.bool a,.bool b=>some (a==b)
 | some (.int _),.int k a,.int k' b=>if k=k' then some (a==b) else none
 | some .string,.str a,.str b=>some (a==b)
 | some (.pointer p),.obj i a,.obj j b=>if i=j/\P.cellsOf p≠0 then some (a==b) else none
 | some (.pointer _),.nilptr,.nilptr=>some true
 | some (.pointer _),.nilptr,.obj _ _ | some (.pointer _),.obj _ _,.nilptr | some (.pointer _),.nilptr,.ref _ | some (.pointer _),.ref _,.nilptr | some (.pointer _),.nilptr,.loc _ _ | some (.pointer _),.loc _ _,.nilptr=>some false
 | some (.slice _),.list nn _ _,.list false _ _=>some (!nn)
 | some (.slice _),.slo _ _ _ _ _,.list false _ _=>some false
 | some (.map _ _),.nilmap,.nilmap=>some true
 | some (.map _ _),.map _,.nilmap | some (.map _ _),.nilmap,.map _=>some false
 | some (.interface _),.nilif,.iface _ _ | some (.interface _),.iface _ _,.nilif=>some false
 | some (.func _ _ _),.nilfunc,.nilfunc=>some true
 | some (.func _ _ _),.func _ _ _,.nilfunc | some (.func _ _ _),.nilfunc,.func _ _ _=>some false
 | _,_,_=>none
def eqFs (xs ys:List V):List Field->Option Bool
 | []=>some true
 | f::r=>ck (!(f.name== "_")&&!af4 P f.type) <|
  (xs[f.offset]?).bind fun x=>(ys[f.offset]?).bind fun y=>(eqB P f.type x y).bind fun b=>bif b then eqFs xs ys r else some false
def eqV (t:TypeId)(x y:V):Option Bool:=
 match P.underlying t,x,y with
 | some (.struct fs),.agg xs,.agg ys=>ck (!P.stoodInHeld t&&!P.eqGuardType P.depth t) (eqFs P xs ys fs.toList)
 | _,x,y=>eqB P t x y
def binV (op:BinOp)(t:TypeId)(x y:V):Option V:=
 match op,x,y with
 | .shl,.int k a,.int _ b=>if b<0 then none else some (.int k (k.wrap (a*2 ^ min b.toNat k.bits)))
 | .shr,.int k a,.int _ b=>if b<0 then none else some (.int k (a.fdiv (2 ^ min b.toNat k.bits)))
 | op,.int k a,.int k' b=>if k=k' then intOp op k a b else none
 | op,.str a,.str b=>strOp op a b
 | .eql,x,y=>(eqV P t x y).map .bool
 | .neq,x,y=>(eqV P t x y).map fun b=>.bool !b
 | _,_,_=>none
def unV (op:UnOp)(x:V):Option V:=
 match op,x with
 | .neg,.int k n=>some (.int k (k.wrap (0-n)))
 | .not,.bool b=>some (.bool !b)
 | _,_=>none
def aF1 :Operand->Bool | .const .nilIface=>true | _=>false
def as8 (op:BinOp)(t:TypeId)(x:V)(y:Operand):Option V:=
 match P.underlying t,x with
 | some (.interface _),.nilif=>bif aF1 y then (match op with | .eql=>some (.bool true) | .neq=>some (.bool false) | _=>none) else none
 | _,_=>none
def at2 (s:List O)(i:Nat):Bool:=match s[i]? with | some (.box _)=>true | _=>false
def ptrT (op:BinOp)(t:TypeId)(yo:Operand):Option (Nat×Bool):=match op,P.underlying t,yo with
 | _,_,.const _=>none
 | .eql,some (.pointer p),_=>some (P.cellsOf p,false)
 | .neq,some (.pointer p),_=>some (P.cellsOf p,true)
 | _,_,_=>none
def av0 (op:BinOp)(t:TypeId)(s:List O)(x y:V)(yo:Operand):Option V:=match ptrT P op t yo,x,y with
 | some (n,neg),.obj i _,.obj j _=>bif !(Nat.beq i j)&&!(Nat.beq n 0)&&at2 s i&&at2 s j then some (.bool neg) else none
 | _,_,_=>none
def binO (op:BinOp)(t:TypeId)(x y:V)(yo:Operand):Option V:=match as8 P op t x yo with | some v=>some v | none=>binV P op t x y
def bg8 :V->Option UInt8
 | .int .u8 n=>if 0<=n/\n<256 then some n.toNat.toUInt8 else none
 | _=>none
def bz7 (src dst:TypeId)(x:V):Option V:=
 match P.underlying src,P.underlying dst,x with
 | some _,some (.int k),.int _ n=>some (.int k (k.wrap n))
 | some _,some .string,.str s=>some (.str s)
 | some (.slice e),some .string,.list _ _ es=>match P.underlying e with | some (.int .u8)=>(es.mapM bg8).map fun l=>.str ⟨l.toArray⟩ | _=>none
 | _,_,_=>none
def bg0 (place:Nat->Option (Nat×Nat))(cells:List V):List (Nat×V)->Option (List V)
 | []=>some cells
 | (i,v)::r=>(place i).bind fun p=>ck (v.cells.length==p.2&&p.1+p.2<=cells.length&&ac5 v.cells) (bg0 place (ae3 cells p.1 v.cells) r)
def bm9 (t:TypeId)(parts:List (Nat×V)):Option V:=
 (zeroV P t).bind fun z=>ck (ac5 z.cells) <|
 match P.underlying t with
 | some (.struct fs)=>ck (fs.toList.all fun f=>(P.info? f.type).isSome)<|(bg0 (fun i=>(fs[i]?).map fun f=>(f.offset,P.cellsOf f.type)) z.cells parts).map .agg
 | some (.array _ e)=>ck (P.info? e).isSome<|(bg0 (fun i=>some (i*P.cellsOf e,P.cellsOf e)) z.cells parts).map .agg
 | _=>none
def at5 (k:Nat)(es:List V):List (Nat×V)->Option (List V)
 | []=>some es
 | (i,v)::r=>ck (i<es.length&&v.cells.length==k&&ac5 v.cells) (at5 k (es.set i v) r)
def isVar (t:TypeId)(v:V):Bool:=match v with | .agg _=>af4 P t | _=>!af4 P t
def fresh (v:V)(st:St):(V×Tag)×St:=((v,.tok st.g),{st with g:=st.g+1,l:=st.g::st.l})
def ap8 :V->Option Int | .int _ n=>some n | _=>none
def au1 (d:Int):Option V->Option Int
 | some v=>ap8 v
 | none=>some d
def aM7 (nn:Bool)(k:Nat)(es:List V)(tag:Tag)(lo hi mx:Option V):Option (V×Tag):=
 match mx with
 | some m=>(ap8 m).bind fun m=>(hi.bind ap8).bind fun h=>(au1 0 lo).bind fun l=>
  if 0<=l/\l<=h/\h<=m/\m<=es.length then some (.list nn k ((es.take h.toNat).drop l.toNat),if h=m then .full else .no) else none
 | none=>(au1 es.length hi).bind fun h=>(au1 0 lo).bind fun l=>
  if 0<=l/\l<=h/\h<=es.length then some (.list nn k ((es.take h.toNat).drop l.toNat),match hi with | none=>tag | _=>.no) else none
def sloL (id off k n c:Nat)(lo hi mx:Option V):Option (V×Tag):=
 match mx with
 | none=>(au1 n hi).bind fun h=>(au1 0 lo).bind fun l=>
  if 0<=l/\l<=h/\h<=n/\(l<c∨l=0) then some (.slo id (off+l.toNat*k) k (h.toNat-l.toNat) (c-l.toNat),.no) else none
 | some m=>(ap8 m).bind fun m=>(hi.bind ap8).bind fun h=>(au1 0 lo).bind fun l=>
  if l=0/\h=0/\m=0 then some (.list true k [],.full) else none
def aZ9 (s:ByteArray)(lo hi:Option V):Option V:=
 (au1 s.size hi).bind fun h=>(au1 0 lo).bind fun l=>
 if 0<=l/\l<=h/\h<=s.size then some (.str (s.extract l.toNat h.toNat)) else none
def av5 (t:TypeId)(x i:V):Option V:=
 (ap8 i).bind fun i=>
 match P.underlying t,x with
 | some (.slice e),.slo id off k n _=>ck (k==P.cellsOf e&&P.cellsOf e !=0)<|if 0<=i/\i<n then some (.obj id (off+i.toNat*k)) else none
 | some (.slice e),.list _ k es=>ck (k==P.cellsOf e&&P.cellsOf e !=0)<|if 0<=i/\i<es.length then (es[i.toNat]?).map fun v=>.ref v.cells else none
 | some (.array n e),.ref cs=>ck (P.cellsOf e !=0)<|if 0<=i/\i<n then some (.ref (cs.drop (i.toNat*P.cellsOf e))) else none
 | some (.array n e),.loc j o=>ck (P.cellsOf e !=0)<|if 0<=i/\i<n then some (.loc j (o+i.toNat*P.cellsOf e)) else none
 | some (.array n e),.obj j o=>ck (P.cellsOf e !=0)<|if 0<=i/\i<n then some (.obj j (o+i.toNat*P.cellsOf e)) else none
 | _,_=>none
def aR9 (t:TypeId)(x i:V):Option V:=
 (ap8 i).bind fun i=>
 match P.underlying t,x with
 | some (.array n e),.agg cs=>ck (P.cellsOf e !=0)<|if 0<=i/\i<n then au8 P e ((cs.drop (i.toNat*P.cellsOf e)).take (P.cellsOf e)) else none
 | some .string,.str s=>if h:0<=i/\i.toNat<s.size then some (.int .u8 (s[i.toNat]'h.2).toNat) else none
 | _,_=>none
def aV7 :V->V->Option Bool
 | .int k a,.int k' b=>if k=k' then some (a==b) else none
 | .str a,.str b=>some (a==b)
 | .bool a,.bool b=>some (a==b)
 | _,_=>none
def av9 :List V->List V->Option Bool
 | [],[]=>some true
 | x::a,y::b=>(aV7 x y).bind fun p=>(av9 a b).map fun q=>p&&q
 | _,_=>none
def az1 :V->V->Option Bool
 | .int k a,.int k' b=>if k=k' then some (a==b) else none
 | .str a,.str b=>some (a==b)
 | .bool a,.bool b=>some (a==b)
 | .agg a,.agg b=>av9 a b
 | _,_=>none
def aB1 (key:V):List (V×V)->Option (Option V)
 | []=>some none
 | (k,v)::r=>(az1 key k).bind fun b=>bif b then some (some v) else aB1 key r
def putV (key val:V):List (V×V)->Option (List (V×V))
 | []=>some [(key,val)]
 | (k,v)::r=>(az1 key k).bind fun b=>bif b then some ((key,val)::r) else (putV key val r).map ((k,v)::·)
def posV (key:V):List (V×V)->Option Nat
 | []=>some 0
 | (k,_)::r=>(az1 key k).bind fun b=>bif b then some 0 else (posV key r).map (·+1)
def mapOf (st:St):V->Option (List (V×V)×Nat)
 | .nilmap=>some ([],0)
 | .map id=>match st.s[id]? with | some (.map es c)=>some (es,c) | _=>none
 | _=>none
def as6 :V->Bool | .undef=>false | _=>true
def bj9 (kt:TypeId)(v:V):Bool:=match P.underlying kt,v with | some (.int _),.int _ _ | some .string,.str _ | some .bool,.bool _=>true | _,_=>false
def aT8 :Nat->List Field->List V->Bool
 | _,[],[]=>true
 | i,f::fs,c::cs=>!(f.name== "_")&&Nat.beq f.offset i&&bj9 P f.type c&&aT8 (i+1) fs cs
 | _,_,_=>false
def aN7 (kt:TypeId)(v:V):Bool:=match P.underlying kt,v with | some (.int _),.int _ _ | some .string,.str _ | some .bool,.bool _=>true | some (.struct fs),.agg cs=>!P.stoodInHeld kt&&aT8 P 0 fs.toList cs | _,_=>false
def aC6 (st:St)(t:TypeId)(m key:V):Option ((V×Tag)×St):=match P.underlying t,m with
 | some (.map kt e),.map id=>ck (aN7 P kt key)<|(mapOf st (.map id)).bind fun es=>(zeroV P e).bind fun z=>ck (as6 z)<|(aB1 key es.1).bind fun r=>(putV key (r.getD z) es.1).bind fun es'=>(posV key es.1).map fun (i:Nat)=>
  ((.tup [r.getD z,.int .i64 (i:Int)],.no),{st with s:=st.s.set id (.map es' (if es'.length=es.1.length then es.2 else es.2+1))})
 | _,_=>none
def aD2 (st:St)(m s x:V):Option ((V×Tag)×St):=match m,s with
 | .map id,.int .i64 n=>ck (match x with | .undef | .loc _ _ | .tup _=>false | _=>true)<|(mapOf st (.map id)).bind fun es=>ck (decide (0<=n))<|(es.1[n.toNat]?).map fun kv=>
  ((.undef,.no),{st with s:=st.s.set id (.map (es.1.set n.toNat (kv.1,x)) es.2)})
 | _,_=>none
def srcOf (K:Nat):V->Option (List V)
 | .list _ k2 xs=>ck (k2==K||xs.isEmpty) (some xs)
 | .str b=>ck (K==1) (some (b.data.toList.map fun c:UInt8=>V.int .u8 c.toNat))
 | _=>none
def ax4 (e:TypeId)(s:V×Tag)(x:V)(st:St):Option ((V×Tag)×St):=
 match s.1 with
 | .list nn k es=>
  (srcOf (P.cellsOf e) x).bind fun xs=>
  ck (k==P.cellsOf e||!nn)<|ck (0<P.cellsOf e) <|
  (zeroV P e).bind fun z=>ck (z.cells.length==P.cellsOf e&&ac5 z.cells) <|
  if (es.length+xs.length)*P.bytesOf e<=140737488355328/\es.length+xs.length<=140737488355328 then
   match s.2 with
   | .tok g=>if st.l.contains g then some (fresh (.list (nn||!xs.isEmpty) (P.cellsOf e) (es++xs)) {st with l:=st.l.filter (· !=g)}) else none
   | .full=>some (fresh (.list (nn||!xs.isEmpty) (P.cellsOf e) (es++xs)) st)
   | .no=>bif nn then none else some (fresh (.list (!xs.isEmpty) (P.cellsOf e) (es++xs)) st)
  else none
 | _=>none
def chunks (K:Nat):Nat->List V->List V
 | 0,_=>[]
 | n+1,cs=>(bif K==1 then cs.headD .undef else .agg (cs.take K))::chunks K n (cs.drop K)
def aT9 (st:St)(id off k n:Nat):Option (List V):=match st.s[id]? with
 | some (.box cs)=>ck (Nat.ble (off+n*k) cs.length) (some (chunks k n ((cs.drop off).map (·.1))))
 | _=>none
def srcS (st:St)(K:Nat):V->Option (List V)
 | .slo id off k n _=>ck (k==K) (aT9 st id off k n)
 | x=>srcOf K x
def newS (e:TypeId)(nn:Bool)(k:Nat)(x:V)(st:St):Option ((V×Tag)×St):=
 (srcS st (P.cellsOf e) x).bind fun xs=>ck (Nat.blt 0 (P.cellsOf e))<|(zeroV P e).bind fun z=>ck (z.cells.length==P.cellsOf e&&ac5 z.cells) <|
 match xs with
 | []=>some ((.list nn k [],.no),st)
 | xs=>ck (Nat.ble (xs.length*P.bytesOf e) 140737488355328&&Nat.ble xs.length 140737488355328) <|
  some ((.slo st.s.length 0 (P.cellsOf e) xs.length xs.length,.no),{st with s:=st.s++[.box ((xs.flatMap V.cells).map fun c=>(c,nilB c))]})
def aN5 (e:TypeId)(id off k n c:Nat)(x:V)(st:St):Option ((V×Tag)×St):=
 (srcS st (P.cellsOf e) x).bind fun xs=>match st.s[id]? with
 | some (.box cs)=>ck (Nat.blt 0 (P.cellsOf e)&&k==P.cellsOf e&&Nat.ble (n+xs.length) c&&Nat.ble (off+(n+xs.length)*k) cs.length) <|
  some ((.slo id off k (n+xs.length) c,.no),{st with s:=st.s.set id (.box (ae3 cs (off+n*k) ((xs.flatMap V.cells).map fun c=>(c,nilB c))))})
 | _=>none
def bb8 (e:TypeId)(id off k n:Nat)(x:V)(st:St):Option ((V×Tag)×St):=
 (srcS st (P.cellsOf e) x).bind fun xs=>(aT9 st id off k n).bind fun es=>ck (Nat.blt 0 (P.cellsOf e)&&k==P.cellsOf e&&off==0&&Nat.blt 0 xs.length&&Nat.ble ((n+xs.length)*P.bytesOf e) 140737488355328&&Nat.ble (n+xs.length) 140737488355328) <|
 (zeroV P e).bind fun z=>ck (z.cells.length==P.cellsOf e&&ac5 z.cells) <|
 some ((.slo st.s.length 0 k (n+xs.length) (n+xs.length),.no),{st with s:=st.s.set id .gone++[.box (((es++xs).flatMap V.cells).map fun c=>(c,nilB c))]})
def orElse {α:Type}(x:Option α)(y:Option α):Option α:=match x with | some r=>some r | none=>y
def aA4 (take:Bool)(e:TypeId)(s:V×Tag)(x:V)(st:St):Option ((V×Tag)×St):=
 bif take then match s with
  | (.slo id off k n c,_)=>orElse (aN5 P e id off k n c x st) (bb8 P e id off k n x st)
  | (.list false k [],_)=>newS P e false k x st
  | (.list true k [],.full)=>newS P e true k x st
  | _=>none
 else ax4 P e s x st
def aH2 (e:TypeId)(v:V)(st:St):Option ((V×Tag)×St):=match v with
 | .slo id off k n _=>(zeroV P e).bind fun z=>match st.s[id]? with
  | some (.box cs)=>ck (Nat.blt 0 (P.cellsOf e)&&k==P.cellsOf e&&z.cells.length==P.cellsOf e&&ac5 z.cells&&Nat.ble (off+n*k) cs.length) <|
   some ((.tup [],.no),{st with s:=st.s.set id (.box (ae3 cs off ((List.replicate n z.cells).flatten.map fun c=>(c,nilB c))))})
  | _=>none
 | _=>none
def lenV (st:St)(t:TypeId)(x:V):Option V:=
 match P.underlying t,x with
 | some .string,.str s=>some (.int .i64 s.size)
 | some (.slice _),.list _ _ es=>some (.int .i64 es.length)
 | some (.slice _),.slo _ _ _ n _=>some (.int .i64 n)
 | some (.array n _),_=>some (.int .i64 n)
 | some (.pointer a),_=>match P.underlying a with | some (.array n _)=>some (.int .i64 n) | _=>none
 | some (.map _ _),x=>(mapOf st x).map fun m=>.int .i64 m.1.length
 | _,_=>none
def bw5 (mx:Bool):List V->Option V
 | [.int k a,.int k' b]=>if k=k' then some (.int k (bif mx then (if a<b then b else a) else (if b<a then b else a))) else none
 | _=>none
def aj4 (take:Bool)(b:Builtin)(ts:Array TypeId)(args:List (V×Tag))(st:St):Option ((V×Tag)×St):=
 match b,args with
 | .len,[x]=>(ts[0]?).bind fun t=>(lenV P st t x.1).map fun v=>((v,.no),st)
 | .append,[s,x]=>(ts[0]?).bind fun t=>(ts[1]?).bind fun t2=>match P.underlying t,P.underlying t2 with | some (.slice e),some (.slice _) | some (.slice e),some .string=>aA4 P take e s x.1 st | _,_=>none
 | .clear,[s]=>(ts[0]?).bind fun t=>match P.underlying t with | some (.slice e)=>aH2 P e s.1 st | _=>none
 | .min,l=>(bw5 false (l.map (·.1))).map fun v=>((v,.no),st)
 | .max,l=>(bw5 true (l.map (·.1))).map fun v=>((v,.no),st)
 | _,_=>none
def mkS (tk:Bool)(K:Nat)(es:List V)(st:St):(V×Tag)×St:=
 bif tk then ((.slo st.s.length 0 K es.length es.length,.no),{st with s:=st.s++[.box ((es.flatMap V.cells).map fun c=>(c,nilB c))]}) else ((.list true K es,.full),st)
def opV (f:FuncId)(dst:Nat)(o:Op)(st:St):Option ((V×Tag)×St):=
 match o with
 | .move x | .assign x=>some (ev H st x,st)
 | .pick c a b=>match (ev H st c).1 with
  | .bool c=>match ev H st a,ev H st b with
   | (.bool x,_),(.bool y,_)=>some ((.bool (bif c then x else y),.no),st)
   | x,y=>some ((bif c then x else y),st)
  | _=>none
 | .alloc t=>(zeroV P t).bind fun z=>aC3 H f dst z.cells st
 | .box _ x=>aC3 H f dst (ev H st x).1.cells st
 | .build t parts=>(bm9 P t (parts.toList.map fun p=>(p.1,(ev H st p.2).1))).map fun v=>((v,.no),st)
 | .buildSlice t n parts=>match P.underlying t with
  | some (.slice e)=>(zeroV P e).bind fun z=>ck (decide (0<P.cellsOf e)&&decide (n*P.cellsOf e<=16777216)&&z.cells.length==P.cellsOf e&&ac5 z.cells) <|
   (at5 (P.cellsOf e) (List.replicate n z) (parts.toList.map fun p=>(p.1,(ev H st p.2).1))).map fun es=>mkS (H.take f dst) (P.cellsOf e) es st
  | _=>none
 | .load t p=>ak8 P H f dst t (ev H st p).1 st
 | .store t p x=>(at7 P t (ev H st p).1 (ev H st x) st).map fun st=>((.undef,.no),st)
 | .nilCheck x=>match (ev H st x).1 with
  | .obj i o=>some ((.obj i o,.no),st) | .loc i o=>some ((.loc i o,.no),st) | .ref cs=>some ((.ref cs,.no),st) | _=>none
 | .binOp op t x y _=>match av0 P op t st.s (ev H st x).1 (ev H st y).1 y with
  | some v=>some ((v,.no),st)
  | none=>(binO P op t (ev H st x).1 (ev H st y).1 y).map fun v=>((v,.no),st)
 | .unOp op _ x=>(unV op (ev H st x).1).map fun v=>((v,.no),st)
 | .convert s d x=>(bz7 P s d (ev H st x).1).map fun v=>((v,.no),st)
 | .makeInterface t x=>match P.underlying t,(ev H st x).1 with
  | some (.interface _),_ | none,_ | _,.undef | _,.loc _ _ | _,.tup _=>none
  | _,v=>some ((.iface t v,.no),st)
 | .makeFunc fn first cap=>ck (ac5 (evs H st first.toList)&&ac5 (evs H st cap.toList)) (some ((.func fn (evs H st first.toList) (evs H st cap.toList),.no),st))
 | .makeMap _ none=>some ((.map st.s.length,.no),{st with s:=st.s++[.map [] 0]})
 | .makeSlice t l c=>match P.underlying t with
  | some (.slice e)=>(ap8 (ev H st l).1).bind fun l=>(ap8 (ev H st c).1).bind fun c=>(zeroV P e).bind fun z=>
   ck (decide (0<P.cellsOf e)&&z.cells.length==P.cellsOf e&&ac5 z.cells) <|
   if 0<=l/\l<=c/\c*P.bytesOf e<=140737488355328/\c<=140737488355328 then some (fresh (.list true (P.cellsOf e) (List.replicate l.toNat z)) st) else none
  | _=>none
 | .slice t x lo hi mx=>match P.underlying t,ev H st x with
  | some .string,(.str s,_)=>match mx with | none=>(aZ9 s (lo.map fun o=>(ev H st o).1) (hi.map fun o=>(ev H st o).1)).map fun v=>((v,.no),st) | _=>none
  | some (.slice e),(.list nn k es,tag)=>ck ((k==P.cellsOf e||!nn)&&(P.info? e).isSome)<|(aM7 nn k es (bif H.take f dst then .no else tag) (lo.map fun o=>(ev H st o).1) (hi.map fun o=>(ev H st o).1) (mx.map fun o=>(ev H st o).1)).map fun v=>(v,st)
  | some (.slice e),(.slo id off k n c,_)=>ck (k==P.cellsOf e&&(P.info? e).isSome)<|(sloL id off k n c (lo.map fun o=>(ev H st o).1) (hi.map fun o=>(ev H st o).1) (mx.map fun o=>(ev H st o).1)).map fun v=>(v,st)
  | _,_=>none
 | .fieldAddr s x i=>(aw4 P s i).bind fun o=>ck (P.cellsOf o.2 !=0)<|match (ev H st x).1 with
  | .ref cs=>some ((.ref (cs.drop o.1),.no),st) | .loc j p=>some ((.loc j (p+o.1),.no),st) | .obj j p=>some ((.obj j (p+o.1),.no),st) | _=>none
 | .field s x i=>(aw4 P s i).bind fun o=>match (ev H st x).1 with
  | .agg cs=>(au8 P o.2 ((cs.drop o.1).take (P.cellsOf o.2))).map fun v=>((v,.no),st) | _=>none
 | .indexAddr t x i=>(av5 P t (ev H st x).1 (ev H st i).1).map fun v=>((v,.no),st)
 | .index t x i=>(aR9 P t (ev H st x).1 (ev H st i).1).map fun v=>((v,.no),st)
 | .lookup t m k ok=>match P.underlying t with
  | some (.map kt e)=>ck (aN7 P kt (ev H st k).1)<|(mapOf st (ev H st m).1).bind fun es=>(aB1 (ev H st k).1 es.1).bind fun r=>(zeroV P e).bind fun z=>ck (as6 z) <|
   some (((if ok then .tup [r.getD z,.bool r.isSome] else r.getD z),.no),st)
  | _=>none
 | .mapUpdate t m k x | .insert t m k x=>match P.underlying t,(ev H st m).1 with
  | some (.map kt _),.map id=>ck (aN7 P kt (ev H st k).1&&(match (ev H st x).1 with | .undef | .loc _ _ | .tup _=>false | _=>true))<|(mapOf st (.map id)).bind fun es=>(putV (ev H st k).1 (ev H st x).1 es.1).map fun es'=>
   ((.undef,.no),{st with s:=st.s.set id (.map es' (if es'.length=es.1.length then es.2 else es.2+1))})
  | _,_=>none
 | .mapEntry t m k=>aC6 P st t (ev H st m).1 (ev H st k).1
 | .entryStore _ m s x=>aD2 st (ev H st m).1 (ev H st s).1 (ev H st x).1
 | .typeAssert x _ t ok=>match P.underlying t,(ev H st x).1 with
  | some (.interface _),_ | none,_=>none
  | _,.iface t' v=>if t'=t then some (((if ok then .tup [v,.bool true] else v),.no),st) else if ok then (zeroV P t).bind fun z=>ck (as6 z) (some ((.tup [z,.bool false],.no),st)) else none
  | _,.nilif=>if ok then (zeroV P t).bind fun z=>ck (as6 z) (some ((.tup [z,.bool false],.no),st)) else none
  | _,_=>none
 | .extract t i=>match (ev H st t).1 with | .tup vs=>(vs[i]?).map fun v=>((v,.no),st) | _=>none
 | .call c=>match c.callee with | .builtin b=>aj4 P (H.take f dst) b c.argTypes (c.args.toList.map (ev H st)) st | _=>none
 | _=>none
def ag3 (st:St)(c:Call):Option (FuncId×List V):=
 let args:=evs H st c.args.toList
 match c.callee with
 | .value f=>match (ev H st f).1 with | .func (.func g) first cap=>some (g,first++args++cap) | _=>none
 | .invoke r m=>match (ev H st r).1 with | .iface t v=>(H.meth t m).map fun g=>(g,v::args) | _=>none
 | .builtin _=>none
def St.put (st:St)(dst:Option Nat)(v:V×Tag):St:=
 match dst with | some d=>{st with t:=st.t.set d v} | none=>st
def one :List V->V | [v]=>v | vs=>.tup vs
abbrev Rec :=FuncId->List V->List O->Option Out
abbrev Cont :=Ex->St->Option Out
def goOn (f:FuncId)(dst:Option Nat)(v:V×Tag)(K:St->Option Out)(st:St):Option Out:=
 (norm (match dst with | some d=>H.shape f d | none=>.any) v.1).bind fun v'=>K (st.put dst (v',v.2))
def ad2 :V->Bool | .undef | .loc _ _=>false | _=>true
def aA2 (rec:Rec)(f:FuncId)(g:FuncId)(args:List V)(dst:Option Nat)(st:St)(K:St->Option Out)(KP:Cont):Option Out:=
 ck (args.all ad2) <|
 bif H.pure g then
  ck (ac0 args)<|(rec g args []).bind fun
   | .ret vs _=>ck (ac0 vs)<|bif (H.own g).headD false&&vs.length==1 then (let r:=fresh (one vs) st;goOn H f dst r.1 K r.2) else goOn H f dst (one vs,.no) K st
   | .pan v _=>ck (aj2 v) (KP (.pan v) st)
 else (rec g args st.s).bind fun
   | .ret vs s=>bif (H.own g).headD false&&vs.length==1 then (let r:=fresh (one vs) {st with s:=s};goOn H f dst r.1 K r.2) else goOn H f dst (one vs,.no) K {st with s:=s}
   | .pan v s=>KP (.pan v) {st with s:=s}
def eqNs :List Nat->List Nat->Bool
 | [],[]=>true
 | a::x,b::y=>Nat.beq a b&&eqNs x y
 | _,_=>false
def rfs :Code->List (Array Tmp×Code×Code)
 | .rangeFunc _ ps a b=>[(ps,a,b)]
 | .seq a b=>rfs a++rfs b
 | .cond _ a b=>rfs a++rfs b
 | .block _ a=>rfs a
 | .loop a=>rfs a
 | .scope a=>rfs a
 | _=>[]
def aD4 (f:FuncId):Code:=match P.funcs[f]? with | some fn=>(match fn.body with | some c=>c | none=>.skip) | none=>.skip
def aH0 (ps:List Nat):List (Array Tmp×Code×Code)->Option (Code×Code)
 | []=>none
 | x::r=>bif eqNs x.1.toList ps then some x.2 else aH0 ps r
def aK8 :List (Array Tmp×Code×Code)->Bool
 | []=>true
 | x::r=>r.all (fun y=>!eqNs y.1.toList x.1.toList)&&aK8 r
def bt8 :V->V | .loc _ _=>.undef | v=>v
def av1 (st:St)(c:Call):Option Nat:=match c.callee with | .value f=>(match (ev H st f).1 with | .yld id=>some id | _=>none) | _=>none
def aQ1 (rec:Rec)(f:FuncId)(id:Nat)(args:List V)(dst:Option Nat)(st:St)(K:St->Option Out):Option Out:=
 ck (args.all ad2)<|(rec (P.funcs.size+id) args st.s).bind fun
  | .ret vs s=>goOn H f dst (one vs,.no) K {st with s:=s}
  | .pan _ _=>none
def az2 :V->Bool | .ref _ | .obj _ _=>true | _=>false
def be6 (f:FuncId)(st:St)(p:Operand):Bool:=match p with
 | .tmp t=>match H.kind f t,(st.t.getD t (.undef,.no)).1 with | 0,_=>true | 1,.ref _=>true | 2,.loc _ _=>true | 3,.obj _ _=>true | 4,v=>az2 v | _,_=>false
 | _=>true
def aw8 (f:FuncId)(st:St):Op->Bool
 | .load _ p=>be6 H f st p
 | .store _ p _=>be6 H f st p
 | _=>true
def step (rec:Rec)(inr:Bool)(f:FuncId)(o:Oper)(K:St->Option Out)(KP:Cont)(st:St):Option Out:=
 match o.op with
 | .call c=>match c.callee with
  | .builtin _=>(opV P H f (o.dst.getD 0) o.op st).bind fun r=>goOn H f o.dst r.1 K r.2
  | _=>match av1 H st c with
   | some id=>aQ1 P H rec f id (evs H st c.args.toList) o.dst st K
   | none=>(ag3 H st c).bind fun g=>match H.ext g.1 with
    | some e=>ck (g.2.all ad2)<|(e g.2).bind fun v=>goOn H f o.dst (v,.no) K st
    | none=>ck (H.ok g.1) (aA2 H rec f g.1 g.2 o.dst st K KP)
 | .defer c=>ck (!inr&&match c.callee with | .value _=>true | _=>false)<|(ag3 H st c).bind fun g=>ck (H.ok g.1&&g.2.all ad2)<|K ({st with d:=g::st.d}.put o.dst (.undef,.no))
 | .panic x=>match (ev H st x).1 with | .iface t v=>KP (.pan (.iface t v)) st | _=>none
 | op=>ck (aw8 H f st op)<|(opV P H f (o.dst.getD 0) op st).bind fun r=>goOn H f o.dst r.1 K r.2
def ops (rec:Rec)(inr:Bool)(f:FuncId)(all:Array Oper)(K:St->Option Out)(KP:Cont):List Oper->St->Option Out
 | [],st=>K st
 | o::r,st=>match o.guard with
  | none=>step P H rec inr f o (ops rec inr f all K KP r) KP st
  | some (j,want)=>match ((all[j]?).bind (·.dst)).map fun d=>(st.t.getD d (.undef,.no)).1 with
   | some (.bool b)=>bif b==want then step P H rec inr f o (ops rec inr f all K KP r) KP st else ops rec inr f all K KP r (st.put o.dst (.tup [],.no))
   | some (.tup [])=>ops rec inr f all K KP r (st.put o.dst (.tup [],.no))
   | _=>none
def goD (f:FuncId)(dst:Option Nat)(v:V×Tag)(st:St):Option St:=
 (norm (match dst with | some d=>H.shape f d | none=>.any) v.1).map fun v'=>st.put dst (v',v.2)
def aH4 (rec:Rec)(f:FuncId)(g:FuncId)(args:List V)(dst:Option Nat)(st:St):Option St:=
 ck (args.all ad2) <|
 bif H.pure g then
  ck (ac0 args)<|(rec g args []).bind fun
   | .ret vs _=>ck (ac0 vs)<|bif (H.own g).headD false&&vs.length==1 then (let r:=fresh (one vs) st;goD H f dst r.1 r.2) else goD H f dst (one vs,.no) st
   | .pan _ _=>none
 else (rec g args st.s).bind fun
   | .ret vs s=>bif (H.own g).headD false&&vs.length==1 then (let r:=fresh (one vs) {st with s:=s};goD H f dst r.1 r.2) else goD H f dst (one vs,.no) {st with s:=s}
   | .pan _ _=>none
def aM4 (rec:Rec)(f:FuncId)(id:Nat)(args:List V)(dst:Option Nat)(st:St):Option St:=
 ck (args.all ad2)<|(rec (P.funcs.size+id) args st.s).bind fun
  | .ret vs s=>goD H f dst (one vs,.no) {st with s:=s}
  | .pan _ _=>none
def am2 (rec:Rec)(f:FuncId)(o:Oper)(st:St):Option St:=
 match o.op with
 | .call c=>match c.callee with
  | .builtin _=>(opV P H f (o.dst.getD 0) o.op st).bind fun r=>goD H f o.dst r.1 r.2
  | _=>match av1 H st c with
   | some id=>aM4 P H rec f id (evs H st c.args.toList) o.dst st
   | none=>(ag3 H st c).bind fun g=>match H.ext g.1 with
    | some e=>ck (g.2.all ad2)<|(e g.2).bind fun v=>goD H f o.dst (v,.no) st
    | none=>ck (H.ok g.1) (aH4 H rec f g.1 g.2 o.dst st)
 | .defer _ | .panic _=>none
 | op=>ck (aw8 H f st op)<|(opV P H f (o.dst.getD 0) op st).bind fun r=>goD H f o.dst r.1 r.2
def opD (rec:Rec)(f:FuncId)(all:Array Oper)(i:Nat)(st:St):Option St:=
 (all[i]?).bind fun o=>match o.guard with
  | none=>am2 P H rec f o st
  | some (j,want)=>match ((all[j]?).bind (·.dst)).map fun d=>(st.t.getD d (.undef,.no)).1 with
   | some (.bool b)=>bif b==want then am2 P H rec f o st else some (st.put o.dst (.tup [],.no))
   | some (.tup [])=>some (st.put o.dst (.tup [],.no))
   | _=>none
def an2 (f:FuncId):Operand->Nat
 | .tmp t=>H.kind f t
 | .global _=>1
 | _=>0
def cls (f:FuncId)(o:Oper):Nat:=match o.op with
 | .load _ p=>match an2 H f p with | 1=>0 | 2=>1 | 3=>bif H.take f (o.dst.getD 0) then 3 else 2 | _=>3
 | .buildSlice ..=>bif H.take f (o.dst.getD 0) then 3 else 0
 | .move _ | .assign _ | .pick .. | .build .. | .nilCheck _ | .unOp .. | .convert .. | .makeInterface .. | .makeFunc .. | .slice .. | .fieldAddr .. | .field .. | .indexAddr .. | .index .. | .typeAssert .. | .extract ..=>0
 | .binOp op t _ y _=>bif (ptrT P op t y).isSome then 2 else 0
 | .lookup ..=>2
 | .call c=>match c.callee with
  | .builtin .len=>match (c.argTypes[0]?).bind P.underlying with | some .string | some (.slice _) | some (.array _ _) | some (.pointer _)=>0 | _=>2
  | .builtin .min | .builtin .max=>0
  | .value (.func g)=>bif (H.ext g).isSome||(H.pure g&&!(H.own g).headD false) then 0 else 3
  | _=>3
 | _=>3
def turns (f:FuncId)(o:Oper):Bool×Bool:=match o.op with
 | .load _ _=>(false,true)
 | .store _ p _=>match an2 H f p with | 2=>(true,false) | 3=>(false,true) | _=>(true,true)
 | .alloc _ | .box _ _=>match H.mode f (o.dst.getD 0) with | 1=>(false,false) | 2=>(false,true) | _=>(true,false)
 | .call c=>match c.callee with | .builtin .append=>(false,H.take f (o.dst.getD 0)) | .builtin .clear=>(false,true) | .builtin _=>(false,false) | _=>(false,true)
 | .makeSlice ..=>(false,false)
 | .makeMap .. | .mapUpdate .. | .insert .. | .mapEntry .. | .entryStore ..=>(false,true)
 | _=>(true,true)
def free (f:FuncId)(os:Array Oper)(S:Array Bool)(p:Nat):Bool:=
 match os[p]? with
 | none=>false
 | some o=>Nat.blt (cls P H f o) 3&&(List.range os.size).all fun i=>i==p||S.getD i true||match os[i]? with
  | none=>true
  | some x=>(x.after.any fun e=>Region.binds .any e&&e.on==p)||(Oper.apart os o x&&(match cls P H f o with
   | 0=>true
   | 1=>Nat.blt (cls P H f x) 3||!(turns H f x).1
   | _=>Nat.blt (cls P H f x) 3||!(turns H f x).2))
def drawn (rec:Rec)(f:FuncId)(os:Array Oper)(K:St->Option Out):Nat->Array Bool->St->Option Out
 | 0,S,st=>ck (Region.ready .any os S).isEmpty (K st)
 | n+1,S,st=>match Region.ready .any os S with
  | []=>K st
  | l=>match l.find? (free P H f os S) with
   | some p=>(opD P H rec f os p st).bind (drawn rec f os K n (S.setIfInBounds p true))
   | none=>as4 (l.map fun i=>(opD P H rec f os i st).bind (drawn rec f os K n (S.setIfInBounds i true)))
def clearS (l:List Nat)(st:St):St:={st with t:=l.foldl (fun t i=>t.set i (.undef,.no)) st.t}
def tagAt (st:St):Spot->Tag
 | .slot i=>(st.t.getD i (.undef,.no)).2
 | .cell i j=>((st.a.getD i []).getD j (.undef,.no)).2
def bs4 (st:St):Spot->St
 | .slot i=>{st with t:=st.t.set i ((st.t.getD i (.undef,.no)).1,.no)}
 | .cell i j=>{st with a:=st.a.set i ((st.a.getD i []).set j (((st.a.getD i []).getD j (.undef,.no)).1,.no))}
def bq8 (st:St):List Nat->Option St
 | []=>some st
 | i::r=>ck (aT7 i st.t) (bq8 {st with a:=st.a.set i []} r)
def aQ2 (l:List Nat):List Tag->Bool
 | []=>true
 | .tok g::r=>l.contains g&&!r.contains (.tok g)&&aQ2 l r
 | .full::r=>aQ2 l r
 | .no::_=>false
def renT (ks:List Spot)(ts:List Tag)(s:Option Spot)(t:Tag):Tag:=match t with
 | .tok g=>match ts.idxOf? (.tok g) with | some i=>.tok i | none=>.no
 | .full=>match s.bind ks.idxOf? with | some i=>.tok i | none=>.full
 | .no=>.no
def bA0 (ks:List Spot)(st:St):Option St:=
 let ts:=ks.map (tagAt st)
 ck (aQ2 st.l ts) (some {st with
  t:=st.t.zipIdx.map fun p=>(p.1.1,renT ks ts (some (.slot p.2)) p.1.2),
  a:=st.a.zipIdx.map fun b=>b.1.zipIdx.map fun p=>(p.1.1,renT ks ts (some (.cell b.2 p.2)) p.1.2),
  g:=ks.length,l:=List.range ks.length})
def aR3 (c:Option Nat)(v:V):Option V:=match c with
 | none=>some v
 | some j=>(match v with | .agg cs=>cs[j]? | _=>none)
def aD6 (c:Option Nat)(v u:V):V:=match c with
 | none=>u
 | some j=>(match v with | .agg cs=>.agg (cs.set j u) | v=>v)
def aQ5 (st:St):Spot->V
 | .slot i=>(st.t.getD i (.undef,.no)).1
 | .cell i j=>((st.a.getD i []).getD j (.undef,.no)).1
def setSpotV (st:St)(u:V):Spot->St
 | .slot i=>{st with t:=st.t.set i (u,.no)}
 | .cell i j=>{st with a:=st.a.set i ((st.a.getD i []).set j (u,.no))}
def frzV (s:List O)(v:V):Option (V×List O):=match v with
 | .slo id off k n _=>(match s[id]? with
  | some (.box cs)=>ck (Nat.ble (off+n*k) cs.length&&Nat.blt 0 k&&cs.all (fun p=>!p.2)) (some (.list true k (chunks k n ((cs.drop off).map (·.1))),s.set id .gone))
  | _=>none)
 | .list nn k es=>some (.list nn k es,s)
 | _=>none
def frzS (st:St)(p:Spot×Option Nat):Option St:=(aR3 p.2 (aQ5 st p.1)).bind fun v=>(frzV st.s v).bind fun q=>
 some (setSpotV {st with g:=st.g+1,s:=q.2} (aD6 p.2 (aQ5 st p.1) q.1) p.1)
def frzL :List (Spot×Option Nat)->St->Option St
 | [],st=>some st
 | p::r,st=>(frzS st p).bind (frzL r)
def behind (b:Bhd)(st:St):Option St:=(frzL b.frz st).bind fun st=>
 (bq8 (clearS b.clear st) b.drop).bind fun st=>
 let st:=b.weak.foldl bs4 st
 match b.keep with | none=>some st | some ks=>bA0 ks st
def branch (f:FuncId)(c:Operand)(b:Bool)(st:St):Option St:=match c with | .tmp t=>behind (H.bc f t b) st | _=>some st
def iter (b:Cont->St->Option Out):Nat->Cont->St->Option Out
 | 0,_,_=>none
 | n+1,K,st=>b (fun
   | .normal,st'=>iter b n K st'
   | e,st'=>K e st') st
def seqK (y:St->Option Out)(K:Cont):Cont:=fun
 | .normal,st=>y st
 | e,st=>K e st
def ay8 (id:Nat)(K:Cont):Cont:=fun
 | .exit i,st=>bif i==id then K .normal st else K (.exit i) st
 | e,st=>K e st
def aD1 :Code->List Nat
 | .exit e=>[e]
 | .seq a b=>aD1 a++aD1 b
 | .cond _ a b=>aD1 a++aD1 b
 | .block _ a=>aD1 a
 | .loop a=>aD1 a
 | .scope a=>aD1 a
 | _=>[]
def bc0 :List Nat->Nat->(Nat->Option Out)->Option Out
 | [],_,_=>none
 | a::r,e,F=>bif Nat.beq a e then F a else bc0 r e F
def jumpK (es:List Nat)(K:Cont)(st:St):Option (Option Nat)->Option Out
 | none=>K .normal st
 | some none=>K .ret st
 | some (some e)=>bc0 es e fun e=>K (.exit e) st
def lpK (s:List O)(id:Nat)(K:List O->Option (Option Nat)->Option Out):Option Out:=match s[id]? with
 | some (.loop _ _ _ q pend)=>ck (!(Nat.beq q 1)) (K (s.set id .gone) pend)
 | _=>none
def aR1 (es:List Nat)(K:Cont)(st:St):Out->Option Out
 | .ret _ s=>lpK s st.s.length fun s pend=>jumpK es K {st with s:=s,d:=(0,[.undef])::st.d} pend
 | .pan v s=>K (.pan v) {st with s:=s,d:=(0,[.undef])::st.d}
def ax9 (rec:Rec)(inr:Bool)(f:FuncId)(g:Operand)(ps:List Nat)(es:List Nat)(K:Cont)(st:St):Option Out:=
 ck (!inr&&aK8 (rfs (aD4 P f)))<|match (ev H st g).1 with
 | .func (.func h) first cap=>
  ck (H.ok h&&!(H.own h).headD false&&(first++cap).all ad2) <|
  (rec h (first++[.yld st.s.length]++cap) (st.s++[.loop f ps (st.t.map fun p=>bt8 p.1) 0 none])).bind (aR1 es K st)
 | _=>none
def code (rec:Rec)(n:Nat)(inr:Bool)(f:FuncId):Code->Cont->St->Option Out
 | .skip,K,st=>K .normal st
 | .region id os d,K,st=>
  bif d then drawn P H rec f os (fun st'=>(behind (H.br f id) st').bind (K .normal)) os.size (Array.replicate os.size false) st
  else ops P H rec inr f os (fun st'=>(behind (H.br f id) st').bind (K .normal)) K os.toList st
 | .seq x y,K,st=>code rec n inr f x (seqK (code rec n inr f y K) K) st
 | .cond c x y,K,st=>match (ev H st c).1 with | .bool b=>bif b then (branch H f c true st).bind (code rec n inr f x K) else (branch H f c false st).bind (code rec n inr f y K) | _=>none
 | .block id c,K,st=>code rec n inr f c (ay8 id K) st
 | .loop c,K,st=>iter (code rec n inr f c) n K st
 | .exit id,K,st=>K (.exit id) st
 | .ret,K,st=>K .ret st
 | .rangeFunc g ps _ cb,K,st=>ax9 P H rec inr f g ps.toList (aD1 cb) K st
 | _,_,_=>none
def ba9 :ae2:={H with take:=fun _ _=>false}
def resV (f:FuncId)(st:St):List ResultVar->Option (List (V×Tag))
 | []=>some []
 | .tmp t::r=>(resV f st r).map (st.t.getD t (.undef,.no)::·)
 | .cell a t::r=>(ak8 P (ba9 H) f 0 t (st.t.getD a (.undef,.no)).1 st).bind fun v=>(resV f st r).map (v.1::·)
def aG0 :V->Bool | .undef | .loc _ _ | .tup _=>false | _=>true
def ownOk (l:List Nat):V×Tag->Bool
 | (.list _ _ _,.full)=>true
 | (.list nn _ _,.tok g)=>l.contains g||!nn
 | (.list nn _ _,.no)=>!nn
 | _=>false
def aA9 (f:FuncId)(fn:Func):Cont:=fun
 | .normal,st | .ret,st=>ck st.d.isEmpty<|(resV P H f st fn.results.toList).bind fun vs=>
  ck (vs.all (fun v=>aG0 v.1)&&(!((H.own f).headD false&&vs.length==1)||vs.all (ownOk st.l))) (some (.ret (vs.map (·.1)) st.s))
 | .pan v,st=>ck (st.d.isEmpty&&aG0 v) (some (.pan v st.s))
 | _,_=>none
def aR8 (d:FuncId×List V):Bool:=match d.2 with | [.undef]=>true | _=>false
def aY1 (o:Oper):Bool:=match o.guard,o.op with
 | none,.call c=>(match c.callee with | .builtin .recover=>c.args.toList.isEmpty | _=>false)
 | _,_=>false
def recB (f:FuncId):Option (Func×Nat×Oper×List Oper×Code):=match P.funcs[f]? with
 | some fn=>(match fn.body with
  | some (.seq (.region id os false) rest)=>(match os.toList with
   | o::r=>bif aY1 o then some (fn,id,o,r,rest) else none
   | []=>none)
  | _=>none)
 | none=>none
def isPlainOp :Op->Bool | .call _ | .defer _ | .panic _=>false | _=>true
def opsR (f:FuncId):List Oper->St->Option St
 | [],st=>some st
 | o::r,st=>ck (o.guard.isNone&&isPlainOp o.op) ((opV P H f (o.dst.getD 0) o.op st).bind fun q=>(goD H f o.dst q.1 q.2).bind (opsR f r))
def drain (D:Option V->Rec):List (FuncId×List V)->Option V->St->(Option V->St->Option Out)->Option Out
 | [],m,st,K=>K m {st with d:=[]}
 | d::ds,m,st,K=>bif aR8 d then drain D ds m {st with d:=ds} K else ck (H.ok d.1&&!(H.own d.1).headD false)<|(D m d.1 d.2 st.s).bind fun
   | .ret _ s=>drain D ds (bif (recB P d.1).isSome then none else m) {st with s:=s,d:=ds} K
   | .pan _ _=>none
def exOf :Option V->Ex | none=>.ret | some v=>.pan v
def leave (D:Option V->Rec)(f:FuncId)(fn:Func):Cont:=fun
 | .normal,st | .ret,st=>drain P H D st.d none st (fun m st=>aA9 P H f fn (exOf m) st)
 | .pan v,st=>drain P H D st.d (some v) st (fun m st=>aA9 P H f fn (exOf m) st)
 | _,_=>none
def start (m:Nat)(args:List V)(n:Nat)(s:List O):St:=
 {t:=args.map (fun v=>(v,.no))++List.replicate (n-args.length) (.undef,.no),a:=List.replicate m [],g:=0,l:=[],s:=s,d:=[]}
def bz6 (rec:Rec)(n:Nat):Rec:=fun f args s=>match P.funcs[f]? with
 | some fn=>match fn.body with
  | some c=>code P H rec n false f c (aA9 P H f fn) (start (H.sites f) args fn.ntmps s)
  | none=>none
 | none=>none
def recV :Option V->V | some v=>v | none=>.nilif
def aE5 (rec:Rec)(n:Nat)(m:Option V):Rec:=fun f args s=>match recB P f with
 | some (fn,id,o,r,rest)=>(goD H f o.dst (recV m,.no) (start (H.sites f) args fn.ntmps s)).bind fun st=>(opsR P H f r st).bind fun st=>(behind (H.br f id) st).bind (code P H rec n false f rest (aA9 P H f fn))
 | none=>bz6 P H rec n f args s
def bk9 (ps:List Nat)(args t:List V):List V:=(ps.zip args).foldl (fun t p=>t.set p.1 p.2) t
def aF7 (m:Nat)(t:List V)(s:List O):St:={t:=t.map (fun v=>(v,.no)),a:=List.replicate m [],g:=0,l:=[],s:=s,d:=[]}
def endK (s:List O)(id:Nat)(jump:Option (Option Nat)):Option Out:=match s[id]? with
 | some (.loop f ps t q _)=>ck (Nat.beq q 1) (some (.ret [.bool jump.isNone] (s.set id (.loop f ps t (if jump.isNone then 0 else 2) jump))))
 | _=>none
def endY (id:Nat)(jump:Option (Option Nat))(st:St):Option Out:=ck st.d.isEmpty (endK st.s id jump)
def begK (s:List O)(id:Nat)(K:List O->Option Out):Option Out:=match s[id]? with
 | some (.loop f ps t q p)=>ck (Nat.beq q 0) (K (s.set id (.loop f ps t 1 p)))
 | _=>none
def leaveY (id:Nat):Cont:=fun
 | .normal,st=>endY id none st
 | .ret,st=>endY id (some none) st
 | .exit e,st=>endY id (some (some e)) st
 | .pan _,_=>none
def beginY (rec:Rec)(n:Nat)(f:FuncId)(id:Nat)(cb:Code):Cont:=fun
 | .normal,st=>begK st.s id fun s=>code P H rec n true f cb (leaveY id) {st with s:=s}
 | _,_=>none
def callY (rec:Rec)(n:Nat)(id:Nat)(args:List V)(s:List O):Option Out:=match s[id]? with
 | some (.loop f ps t _ _)=>(aH0 ps (rfs (aD4 P f))).bind fun cc=>ck (Nat.beq ps.length args.length) (code P H rec n true f cc.1 (beginY P H rec n f id cc.2) (aF7 (H.sites f) (bk9 ps args t) s))
 | _=>none
def call (G:FuncId->Option (List V->List O->Option Out)):Nat->FuncId->List V->List O->Option Out
 | 0,_,_,_=>none
 | n+1,f,args,s=>match G f with
  | some g=>g args s
  | none=>match P.funcs[f]? with
   | some fn=>match fn.body with
    | some c=>code P H (call G n) n false f c (leave P H (aE5 P H (call G n) n) f fn) (start (H.sites f) args fn.ntmps s)
    | none=>none
   | none=>callY P H (call G n) n (f-P.funcs.size) args s
end
end Go.Proofs.YtnpjififnhjbbaaDoor.E
namespace Go.Proofs.YtnpjififnhjbbaaDoor.E
open Go
abbrev Reg :=Nat×Nat×Nat
inductive Key where
 | tok (g:Nat) | loc (i:Nat) | obj (id:Nat) | spare (id off:Nat) | ghost (id:Nat)
 deriving DecidableEq
abbrev Own :=Key->Option Reg
def Reg.has (r:Reg)(b x:Nat):Prop:=r.1=b/\r.2.1<=x/\x<r.2.2
def Own.has (o:Own)(b x:Nat):Prop:=∃k r,o k=some r/\Reg.has r b x
def Own.rho (o:Own)(id:Nat):Option (Nat×Nat):=match o (.obj id) with | some r=>some (r.1,r.2.2) | none=>(o (.ghost id)).map fun r=>(r.1,r.2.2)
theorem Own.ap7 {o o':Own}{id:Nat}(h1:o (.obj id)=o' (.obj id))(h2:o (.ghost id)=o' (.ghost id)):o.rho id=o'.rho id:=by unfold Own.rho;rw [h1,h2]
theorem Own.aj0 {o:Own}{id:Nat}{r:Reg}(h:o (.obj id)=some r):o.rho id=some (r.1,r.2.2):=by unfold Own.rho;rw [h]
theorem Own.aQ7 {o:Own}{id:Nat}(h1:o (.obj id)=none)(h2:o (.ghost id)=none):o.rho id=none:=by unfold Own.rho;rw [h1,h2];rfl
def Mut (mo:Nat->Nat->Prop)(o:Own)(b x:Nat):Prop:=mo b x∨o.has b x
inductive VRel (M:Nat->Nat->Prop)(ρ:Nat->Option (Nat×Nat))(w:World):V->Value->Prop
 | bool (b):VRel M ρ w (.bool b) (.bool b)
 | int (k n):VRel M ρ w (.int k n) (.int k n)
 | str (s):VRel M ρ w (.str s) (.string s)
 | nilptr:VRel M ρ w .nilptr (.pointer none)
 | nilmap:VRel M ρ w .nilmap (.map none)
 | nilfunc:VRel M ρ w .nilfunc .nilFunc
 | nilif:VRel M ρ w .nilif .nilIface
 | nillist (k):VRel M ρ w (.list false k []) (.slice none 0 0)
 | list (k:Nat) (es:List V) (b o c:Nat) (f:Nat->Nat->Value) (n:Nat) (hn:es.length=n) (hc:n<=c)
   (hk:∀e∈es,e.cells.length=k) (hg:∀e∈es,ac5 e.cells=true)
   (h1:∀(i:Nat) (e:V) (j:Nat) (x:V),es[i]? =some e->e.cells[j]? =some x->w.cell? ⟨b,o+i*k+j,none⟩=some (f i j)/\¬M b (o+i*k+j))
   (h2:∀(i:Nat) (e:V) (j:Nat) (x:V),es[i]? =some e->e.cells[j]? =some x->VRel M ρ w x (f i j)) (sp:Option Nat:=none) (hsp:sp=none∨c=0:=by first | exact Or.inl rfl | assumption):
   VRel M ρ w (.list true k es) (.slice (some ⟨b,o,sp⟩) n c)
 | agg (cs:List V) (cs':Array Value) (hs:cs'.size=cs.length) (hg:ac5 cs=true) (h:∀(j:Nat) (x:V) (y:Value),cs[j]? =some x->cs'[j]? =some y->VRel M ρ w x y):VRel M ρ w (.agg cs) (.agg cs')
 | tup (cs:List V) (cs':Array Value) (hs:cs'.size=cs.length) (h:∀(j:Nat) (x:V) (y:Value),cs[j]? =some x->cs'[j]? =some y->VRel M ρ w x y):VRel M ρ w (.tup cs) (.tuple cs')
 | ref (cs:List V) (b o:Nat) (f:Nat->Value) (hg:ac5 cs=true)
   (h1:∀(j:Nat) (x:V),cs[j]? =some x->w.cell? ⟨b,o+j,none⟩=some (f j)/\¬M b (o+j))
   (h2:∀(j:Nat) (x:V),cs[j]? =some x->VRel M ρ w x (f j)):VRel M ρ w (.ref cs) (.pointer (some ⟨b,o,none⟩))
 | obj (id off b:Nat) {C:Nat} (h:ρ id=some (b,C)):VRel M ρ w (.obj id off) (.pointer (some ⟨b,off,none⟩))
 | slo (id off k n c b m:Nat) {C:Nat} (h:ρ id=some (b,C)) (hn:n<=c) (hc:c<=m) (hC:off+m*k<=C):VRel M ρ w (.slo id off k n c) (.slice (some ⟨b,off,none⟩) n m)
 | map (id b:Nat) {C:Nat} (h:ρ id=some (b,C)):VRel M ρ w (.map id) (.map (some b))
 | func (fn:Fn) (x y:List V) (x' y':Array Value) (hx:x'.size=x.length) (hy:y'.size=y.length)
   (h1:∀(j:Nat) (p:V) (q:Value),x[j]? =some p->x'[j]? =some q->VRel M ρ w p q) (h2:∀(j:Nat) (p:V) (q:Value),y[j]? =some p->y'[j]? =some q->VRel M ρ w p q):VRel M ρ w (.func fn x y) (.func fn x' y')
 | iface (t v v') (h:VRel M ρ w v v'):VRel M ρ w (.iface t v) (.iface t v')
 | yld (id b:Nat) {C:Nat} (h:ρ id=some (b,C)):VRel M ρ w (.yld id) (.func (.yield b) #[] #[])
theorem VRel.keep {M M':Nat->Nat->Prop}{ρ ρ':Nat->Option (Nat×Nat)}{w w':World}
  (hM:∀b x v,w.cell? ⟨b,x,none⟩=some v->¬M b x->w'.cell? ⟨b,x,none⟩=some v/\¬M' b x) (hρ:∀id b,ρ id=some b->ρ' id=some b)
  {v:V} {v':Value} (h:VRel M ρ w v v'):VRel M' ρ' w' v v':=by
 induction h with
 | bool b=>exact .bool b
 | int k n=>exact .int k n
 | str s=>exact .str s
 | nilptr=>exact .nilptr
 | nilmap=>exact .nilmap
 | nilfunc=>exact .nilfunc
 | nilif=>exact .nilif
 | nillist k=>exact .nillist k
 | list k es b o c f n hn hc hk hg h1 h2 sp hsp ih=>exact .list k es b o c f n hn hc hk hg (fun i e j x he hx=>hM _ _ _ (h1 i e j x he hx).1 (h1 i e j x he hx).2) ih sp hsp
 | agg cs cs' hs hg h ih=>exact .agg cs cs' hs hg ih
 | tup cs cs' hs h ih=>exact .tup cs cs' hs ih
 | ref cs b o f hg h1 h2 ih=>exact .ref cs b o f hg (fun j x hx=>hM _ _ _ (h1 j x hx).1 (h1 j x hx).2) ih
 | obj id off b h=>exact .obj id off b (hρ _ _ h)
 | slo id off k n c b m h hn hc hC=>exact .slo id off k n c b m (hρ _ _ h) hn hc hC
 | map id b h=>exact .map id b (hρ _ _ h)
 | func fn x y x' y' hx hy h1 h2 i1 i2=>exact .func fn x y x' y' hx hy i1 i2
 | iface t v v' h ih=>exact .iface t v v' ih
 | yld id b h=>exact .yld id b (hρ _ _ h)
theorem an9 :∀(l:List V) (i:Nat) (v:V),ac0 l=true->l[i]? =some v->aj2 v=true
 | [],i,v,_,h=>by simp at h
 | a::r,0,v,hn,h=>by simp [ac0] at hn;simp at h;subst h;exact hn.1
 | a::r,i+1,v,hn,h=>by simp [ac0] at hn;exact an9 r i v hn.2 (by simpa using h)
theorem noObj_cell {v x:V}{j:Nat}(h:aj2 v=true)(hx:v.cells[j]? =some x):aj2 x=true:=by
 unfold V.cells at hx
 split at hx
 ·exact an9 _ j x (by simpa [aj2] using h) hx
 ·cases j with
  | zero=>simp at hx;subst hx;exact h
  | succ j=>simp at hx
theorem ap9 :∀(l:List V) (i:Nat) (v:V),ac5 l=true->l[i]? =some v->v.good=true
 | [],i,v,_,h=>by simp at h
 | a::r,0,v,hn,h=>by simp [ac5] at hn;simp at h;subst h;exact hn.1
 | a::r,i+1,v,hn,h=>by simp [ac5] at hn;exact ap9 r i v hn.2 (by simpa using h)
theorem bw0 {M:Nat->Nat->Prop}{ρ ρ':Nat->Option (Nat×Nat)}{w:World}{v:V}{v':Value}(h:VRel M ρ w v v'):aj2 v=true->VRel M ρ' w v v':=by
 induction h with
 | bool b=>exact fun _=>.bool b
 | int k n=>exact fun _=>.int k n
 | str s=>exact fun _=>.str s
 | nilptr=>exact fun _=>.nilptr
 | nilmap=>exact fun _=>.nilmap
 | nilfunc=>exact fun _=>.nilfunc
 | nilif=>exact fun _=>.nilif
 | nillist k=>exact fun _=>.nillist k
 | list k es b o c f n hn hc hk hg h1 h2 sp hsp ih=>exact fun hh=>.list k es b o c f n hn hc hk hg h1 (fun i e j x he hx=>ih i e j x he hx (noObj_cell (an9 es i e (by simpa [aj2] using hh) he) hx)) sp hsp
 | agg cs cs' hs hg h ih=>exact fun hh=>.agg cs cs' hs hg fun j x y hx hy=>ih j x y hx hy (an9 cs j x (by simpa [aj2] using hh) hx)
 | tup cs cs' hs h ih=>exact fun hh=>.tup cs cs' hs fun j x y hx hy=>ih j x y hx hy (an9 cs j x (by simpa [aj2] using hh) hx)
 | ref cs b o f hg h1 h2 ih=>exact fun hh=>.ref cs b o f hg h1 fun j x hx=>ih j x hx (an9 cs j x (by simpa [aj2] using hh) hx)
 | obj id off b h=>intro hh;simp [aj2] at hh
 | slo id off k n c b m h hn hc hC=>intro hh;simp [aj2] at hh
 | map id b h=>intro hh;simp [aj2] at hh
 | func fn x y x' y' hx hy h1 h2 i1 i2=>
  intro hh
  have hxy:ac0 x=true/\ac0 y=true:=by simpa [aj2] using hh
  exact .func fn x y x' y' hx hy (fun j p q hp hq=>i1 j p q hp hq (an9 x j p hxy.1 hp)) (fun j p q hp hq=>i2 j p q hp hq (an9 y j p hxy.2 hp))
 | iface t v v' h ih=>exact fun hh=>.iface t v v' (ih (by simpa [aj2] using hh))
 | yld id b h=>intro hh;simp [aj2] at hh
mutual
theorem norm_good :∀(s:Sh) (v v':V),norm s v=some v'->v'.good=v.good
 | .any,v,v',h=>by simp [norm] at h;rw [h]
 | .bool,v,v',h=>by cases v<;>simp [norm] at h;subst h;rfl
 | .str,v,v',h=>by cases v<;>simp [norm] at h;subst h;rfl
 | .obj,v,v',h=>by cases v<;>simp [norm] at h;subst h;rfl
 | .map,v,v',h=>by cases v<;>simp [norm] at h;subst h;rfl
 | .int k,v,v',h=>by cases v<;>simp [norm] at h;obtain ⟨_,rfl⟩:=h;rfl
 | .list k,v,v',h=>by
  cases v<;>simp only [norm,reduceCtorEq] at h
  split at h
  ·simp at h;subst h;rfl
  ·split at h<;>simp at h;subst h;rfl
 | .agg l,v,v',h=>by cases v<;>simp only [norm,reduceCtorEq] at h;obtain ⟨cs,_,rfl⟩:=Option.map_eq_some_iff.1 h;rfl
 | .ref l,v,v',h=>by cases v<;>simp only [norm,reduceCtorEq] at h;obtain ⟨cs,_,rfl⟩:=Option.map_eq_some_iff.1 h;rfl
 | .tup l,v,v',h=>by cases v<;>simp only [norm,reduceCtorEq] at h;obtain ⟨cs,_,rfl⟩:=Option.map_eq_some_iff.1 h;rfl
theorem av8 :∀(l:List Sh) (vs vs':List V),aw1 l vs=some vs'->ac5 vs'=ac5 vs/\vs'.length=vs.length
 | [],[],vs',h=>by simp [aw1] at h;subst h;exact ⟨rfl,rfl⟩
 | [],_::_,vs',h=>by simp [aw1] at h
 | _::_,[],vs',h=>by simp [aw1] at h
 | s::l,v::r,vs',h=>by
  simp only [aw1] at h
  obtain ⟨v2,h1,h⟩:=Option.bind_eq_some_iff.1 h
  obtain ⟨r2,h2,rfl⟩:=Option.map_eq_some_iff.1 h
  obtain ⟨e1,e2⟩:=av8 l r r2 h2
  simp [ac5,norm_good s v v2 h1,e1,e2]
end
mutual
theorem norm_rel {M:Nat->Nat->Prop}{ρ:Nat->Option (Nat×Nat)}{w:World}:∀(s:Sh) (v v':V) (x:Value),norm s v=some v'->VRel M ρ w v x->VRel M ρ w v' x
 | .any,v,v',x,h,hx=>by simp [norm] at h;rw [←h];exact hx
 | .bool,v,v',x,h,hx=>by cases v<;>simp [norm] at h;subst h;exact hx
 | .str,v,v',x,h,hx=>by cases v<;>simp [norm] at h;subst h;exact hx
 | .obj,v,v',x,h,hx=>by cases v<;>simp [norm] at h;subst h;exact hx
 | .map,v,v',x,h,hx=>by cases v<;>simp [norm] at h;subst h;exact hx
 | .int k,v,v',x,h,hx=>by cases v<;>simp [norm] at h;obtain ⟨rfl,rfl⟩:=h;exact hx
 | .list k,v,v',x,h,hx=>by
  cases v<;>simp only [norm,reduceCtorEq] at h
  split at h
  ·rename_i e;subst e;simp at h;subst h;exact hx
  ·split at h<;>simp at h
   subst h
   cases hx
   exact .nillist k
 | .agg l,v,v',x,h,hx=>by
  cases v<;>simp only [norm,reduceCtorEq] at h
  obtain ⟨cs,h1,rfl⟩:=Option.map_eq_some_iff.1 h
  cases hx with
  | agg _ cs' hs hg hh=>
  obtain ⟨e1,e2⟩:=av8 _ _ _ h1
  refine .agg cs cs' (by rw [e2];exact hs) (by rw [e1];exact hg) fun j p q hp hq=>?_
  have:=aG2 l _ cs h1 (fun j=>cs'.getD j undef) (fun j y hy=>hh j y _ hy (by
   have:j<cs'.size:=by rw [hs];exact (List.getElem?_eq_some_iff.1 hy).1
   simp [Array.getD_eq_getD_getElem?,this])) j p hp
  rwa [show cs'.getD j undef=q by simp [Array.getD_eq_getD_getElem?,hq]] at this
 | .ref l,v,v',x,h,hx=>by
  cases v<;>simp only [norm,reduceCtorEq] at h
  obtain ⟨cs,h1,rfl⟩:=Option.map_eq_some_iff.1 h
  cases hx with
  | ref _ b o f hg g1 g2=>
  obtain ⟨e1,e2⟩:=av8 _ _ _ h1
  refine .ref cs b o f (by rw [e1];exact hg) (fun j p hp=>?_) (aG2 l _ cs h1 f g2)
  have hlt:=(List.getElem?_eq_some_iff.1 hp).1
  rw [e2] at hlt
  exact g1 j _ (List.getElem?_eq_getElem hlt)
 | .tup l,v,v',x,h,hx=>by
  cases v<;>simp only [norm,reduceCtorEq] at h
  obtain ⟨cs,h1,rfl⟩:=Option.map_eq_some_iff.1 h
  cases hx with
  | tup _ cs' hs hh=>
  obtain ⟨e1,e2⟩:=av8 _ _ _ h1
  refine .tup cs cs' (by rw [e2];exact hs) fun j p q hp hq=>?_
  have:=aG2 l _ cs h1 (fun j=>cs'.getD j undef) (fun j y hy=>hh j y _ hy (by
   have:j<cs'.size:=by rw [hs];exact (List.getElem?_eq_some_iff.1 hy).1
   simp [Array.getD_eq_getD_getElem?,this])) j p hp
  rwa [show cs'.getD j undef=q by simp [Array.getD_eq_getD_getElem?,hq]] at this
theorem aG2 {M:Nat->Nat->Prop}{ρ:Nat->Option (Nat×Nat)}{w:World}:∀(l:List Sh) (vs vs':List V),aw1 l vs=some vs'->∀f:Nat->Value,(∀j x,vs[j]? =some x->VRel M ρ w x (f j))->∀j x,vs'[j]? =some x->VRel M ρ w x (f j)
 | [],[],vs',h=>by simp [aw1] at h;subst h;exact fun f _ j x hx=>by simp at hx
 | [],_::_,vs',h=>by simp [aw1] at h
 | _::_,[],vs',h=>by simp [aw1] at h
 | s::l,v::r,vs',h=>by
  simp only [aw1] at h
  obtain ⟨v2,h1,h⟩:=Option.bind_eq_some_iff.1 h
  obtain ⟨r2,h2,rfl⟩:=Option.map_eq_some_iff.1 h
  intro f hf j x hx
  cases j with
  | zero=>
   simp at hx;subst hx
   exact norm_rel s v v2 (f 0) h1 (hf 0 v rfl)
  | succ j=>exact aG2 l r r2 h2 (fun j=>f (j+1)) (fun j y hy=>hf (j+1) y (by simpa using hy)) j x (by simpa using hx)
end
mutual
theorem aT0 :∀a b:V,beqV a b=true->a=b:=fun a b h=>by
 cases a<;>cases b<;>simp only [beqV,Bool.and_eq_true,beq_iff_eq,decide_eq_true_eq,Bool.false_eq_true] at h<;>try rfl
 ·rw [h]
 ·rw [h.1,h.2]
 ·rw [h]
 ·rw [h.1.1,h.1.2,aw6 _ _ h.2]
 ·rw [aw6 _ _ h]
 ·rw [aw6 _ _ h]
 ·rw [aw6 _ _ h]
 ·rw [h.1,h.2]
 ·rw [h.1.1.1.1,h.1.1.1.2,h.1.1.2,h.1.2,h.2]
 ·rw [h.1,h.2]
 ·rw [h]
 ·rename_i f a b g c d
  have:f=g:=of_decide_eq_true h.1.1
  rw [this,aw6 _ _ h.1.2,aw6 _ _ h.2]
 ·rw [h.1,aT0 _ _ h.2]
 ·rw [h]
theorem aw6 :∀a b:List V,aH5 a b=true->a=b
 | [],[],_=>rfl
 | [],_::_,h=>by simp [aH5] at h
 | _::_,[],h=>by simp [aH5] at h
 | v::r,v'::r',h=>by
  simp only [aH5,Bool.and_eq_true] at h
  rw [aT0 _ _ h.1,aw6 _ _ h.2]
end
theorem beqC_eq :∀a b:List (V×Bool),beqC a b=true->a=b
 | [],[],_=>rfl
 | [],_::_,h=>by simp [beqC] at h
 | _::_,[],h=>by simp [beqC] at h
 | (v,c)::r,(v',c')::r',h=>by
  simp only [beqC,Bool.and_eq_true,beq_iff_eq] at h
  rw [aT0 _ _ h.1.1,h.1.2,beqC_eq _ _ h.2]
theorem beqE_eq :∀a b:List (V×V),beqE a b=true->a=b
 | [],[],_=>rfl
 | [],_::_,h=>by simp [beqE] at h
 | _::_,[],h=>by simp [beqE] at h
 | (v,c)::r,(v',c')::r',h=>by
  simp only [beqE,Bool.and_eq_true] at h
  rw [aT0 _ _ h.1.1,aT0 _ _ h.1.2,beqE_eq _ _ h.2]
theorem bn1 :∀a b:List O,bd1 a b=true->a=b
 | [],[],_=>rfl
 | [],_::_,h=>by simp [bd1] at h
 | _::_,[],h=>by simp [bd1] at h
 | v::r,v'::r',h=>by
  simp only [bd1,Bool.and_eq_true] at h
  have:v=v':=by
   have h:=h.1
   cases v<;>cases v'<;>simp only [beqO,Bool.and_eq_true,beq_iff_eq,Bool.false_eq_true] at h
   ·rw [beqC_eq _ _ h]
   ·rw [beqE_eq _ _ h.1,h.2]
   ·rfl
   ·rw [h.1.1.1.1,h.1.1.1.2,aw6 _ _ h.1.1.2,h.1.2,h.2]
  rw [this,bn1 _ _ h.2]
theorem beqOut_eq (a b:Out)(h:bd0 a b=true):a=b:=by
 cases a<;>cases b<;>simp only [bd0,Bool.and_eq_true,Bool.false_eq_true] at h
 ·rw [aw6 _ _ h.1,bn1 _ _ h.2]
 ·rw [aT0 _ _ h.1,bn1 _ _ h.2]
theorem both_some {x y:Option Out}{o:Out}(h:both x y=some o):x=some o/\y=some o:=by
 unfold both at h
 split at h
 ·rename_i a b
  cases hb:bd0 a b with
  | true=>rw [hb] at h;simp at h;subst h;rw [beqOut_eq _ _ hb];exact ⟨rfl,rfl⟩
  | false=>rw [hb] at h;simp at h
 ·simp at h
theorem aW2 {o:Out}:∀(l:List (Option Out)),as4 l=some o->∀x∈l,x=some o
 | [],h=>by simp [as4] at h
 | [x],h=>by intro y hy;simp at hy;subst hy;exact h
 | x::y::r,h=>by
  obtain ⟨h1,h2⟩:=both_some (x:=x) (y:=as4 (y::r)) h
  intro z hz
  rcases List.mem_cons.1 hz with e | e
  ·rw [e];exact h1
  ·exact aW2 (y::r) h2 z e
end Go.Proofs.YtnpjififnhjbbaaDoor.E
namespace Go.Proofs.YtnpjififnhjbbaaDoor.E
open Go
structure Keep (acc:Nat->Nat->Prop)(w0 w:World):Prop where
 os:w.os=w0.os
 tape:w.tape=w0.tape
 output:w.output=w0.output
 size:w0.heap.size<=w.heap.size
 block:∀b:Nat,b<w0.heap.size->(∀x,¬acc b x)->w.heap[b]? =w0.heap[b]?
 cell:∀b x v,w0.cell? ⟨b,x,none⟩=some v->¬acc b x->w.cell? ⟨b,x,none⟩=some v
def bp7 (w:World)(r:Reg):Prop:=r.2.1<=r.2.2/\∃cs T,w.heap[r.1]? =some (.cells cs T (0,0))/\r.2.2<=cs.size
def Key.live :Key->Bool | .ghost _=>false | _=>true
def Key.room :Key->Bool | .tok _ | .spare _ _=>true | _=>false
structure Base (mo:Nat->Nat->Prop)(own:Own)(w:World):Prop where
 inj:∀k r k' r',k.live=true->k'.live=true->own k=some r->own k'=some r'->r.1=r'.1->k=k'
 gone:∀id r,own (.ghost id)=some r->r.2.2<=r.2.1
 lt:∀k r,own k=some r->r.1<w.heap.size
 off:∀k r b x,own k=some r->Reg.has r b x->¬mo b x
 room:∀k r,own k=some r->k.room=true->bp7 w r
def TRel (own:Own)(l:List Nat)(g0:Nat)(v:V):Tag->Value->Prop
 | .no,_=>True
 | .full,x=>∀a n c,x=.slice a n c->c=n
 | .tok g,x=>g<g0/\(g∈l->∀k es b o n c,v=.list true k es->x=.slice (some ⟨b,o,none⟩) n c->c=n∨own (.tok g)=some (b,o+n*k,o+c*k))
def XRel (M:Nat->Nat->Prop)(own:Own)(w:World):V->Value->Prop
 | .undef,_=>True
 | .loc i off,x=>∃b n,own (.loc i)=some (b,0,n)/\x=.pointer (some ⟨b,off,none⟩)
 | v,x=>VRel M own.rho w v x
def bs1 (M:Nat->Nat->Prop)(own:Own)(l:List Nat)(g0:Nat)(w:World)(i:Nat)(box:List (V×Tag)):Prop:=
 box≠[]->∃b cs T,own (.loc i)=some (b,0,box.length)/\w.heap[b]? =some (.cells cs T (0,0))/\cs.size=box.length /\
  ∀(j:Nat) (v:V) (tag:Tag) (x:Value),box[j]? =some (v,tag)->cs[j]? =some x->v.good=true/\VRel M own.rho w v x/\TRel own l g0 v tag x
def aA6 (own:Own)(id off:Nat)(v:V)(x:Value):Prop:=
 ∀k es b o n c,v=.list true k es->x=.slice (some ⟨b,o,none⟩) n c->c=n∨own (.spare id off)=some (b,o+n*k,o+c*k)
def aW7 :Nat->LoopState | 0=>.ready | 1=>.busy | 2=>.done | _=>.exhausted
def aM9 :Option (Option Nat)->Option Code | none=>none | some none=>some .ret | some (some e)=>some (.exit e)
def LRel (M:Nat->Nat->Prop)(own:Own)(w:World)(t:List V)(tm:Array Value):Prop:=
 tm.size=t.length/\∀(j:Nat) (v:V) (x:Value),t[j]? =some v->tm[j]? =some x->v=.undef∨VRel M own.rho w v x
def aP0 (P:Program)(M:Nat->Nat->Prop)(own:Own)(w:World)(id:Nat):O->Prop
 | .box box=>∃b cs T,own (.obj id)=some (b,0,cs.size)/\w.heap[b]? =some (.cells cs T (0,0))/\box.length<=cs.size /\
  ∀(j:Nat) (v:V) (fl:Bool) (x:Value),box[j]? =some (v,fl)->cs[j]? =some x->v.good=true/\VRel M own.rho w v x/\(fl=true->aA6 own id j v x)
 | .gone=>True
 | .loop f ps t q pend=>∃b r,own (.obj id)=some (b,0,1)/\w.heap[b]? =some (.loop r)/\r.state=aW7 q/\r.pending=aM9 pend/\r.params=ps.toArray/\aH0 ps (rfs (aD4 P f))=some (r.assign,r.body)/\LRel M own w t r.tmps
 | .map es clock=>∃b es',own (.obj id)=some (b,0,1)/\w.heap[b]? =some (.map es' clock)/\(es'.size=es.length/\clock=es.length) /\
  ∀(j:Nat) (k v:V) (e:MapEntry),es[j]? =some (k,v)->es'[j]? =some e->VRel M own.rho w k e.key/\VRel M own.rho w v e.val/\aj2 k=true/\e.born=j
def DRel (n0:Nat)(M:Nat->Nat->Prop)(own:Own)(w:World)(d:FuncId×List V)(d':Deferred):Prop:=
 (d.2=[.undef]/\∃r,d'= {target:=.collected r,args:=#[]}/\n0<=r/\w.heap[r]? =some (.deferred (some []))/\∀x,¬own.has r x) ∨
 ∃cap:Array Value,d'.target=.fn (.func d.1) cap/\(d'.args++cap).size=d.2.length/\∀(j:Nat) (v:V) (x:Value),d.2[j]? =some v->(d'.args++cap)[j]? =some x->VRel M own.rho w v x
structure SR (P:Program)(mo:Nat->Nat->Prop)(own:Own)(s:List O)(w:World):Prop where
 base:Base mo own w
 objs:∀(id:Nat) (o:O),s[id]? =some o->aP0 P (Mut mo own) own w id o
 newObj:∀id,s.length<=id->own (.obj id)=none/\own (.ghost id)=none
 spare:∀id off r,own (.spare id off)=some r->∃cs v,s[id]? =some (.box cs)/\cs[off]? =some (v,true)
structure FR (P:Program)(H:ae2)(mo:Nat->Nat->Prop)(acc:Own)(w0:World)(own:Own)(st:St)(a:Act)(w:World):Prop where
 sr:SR P mo own st.s w
 keep:Keep acc.has w0 w
 old:∀b x,b<w0.heap.size->own.has b x->acc.has b x
 oldB:∀k r,k.live=true->own k=some r->r.1<w0.heap.size->∃k0 r0,k0.live=true/\acc k0=some r0/\r0.1=r.1
 mlt:∀b x,mo b x->b<w0.heap.size
 rho0:∀id b,acc.rho id=some b->own.rho id=some b
 size:a.tmps.size=st.t.length
 slot:∀(i:Nat) (v:V) (tag:Tag) (x:Value),st.t[i]? =some (v,tag)->a.tmps[i]? =some x->XRel (Mut mo own) own w v x/\TRel own st.l st.g v tag x
 arena:∀(i:Nat) (box:List (V×Tag)),st.a[i]? =some box->bs1 (Mut mo own) own st.l st.g w i box
 newTok:∀g,g∉st.l->own (.tok g)=none
 tokLt:∀g,g∈st.l->g<st.g
 newLoc:∀i,st.a.getD i []=[]->own (.loc i)=none
 dsize:a.defers.length=st.d.length
 dfr:∀(i:Nat) (d:FuncId×List V) (d':Deferred),st.d[i]? =some d->a.defers[i]? =some d'->DRel w0.heap.size (Mut mo own) own w d d'
 marks:∀(i j:Nat) (d d':Deferred) (r:Nat),a.defers[i]? =some d->a.defers[j]? =some d'->d.target=.collected r->d'.target=.collected r->i=j
 glob:∀(g:Nat) (cs:List V),H.glob g=some cs->∃f:Nat->Value,ac5 cs=true/\(∀(j:Nat) (x:V),cs[j]? =some x->w.cell? ⟨g,j,none⟩=some (f j)/\¬Mut mo own g j)/\∀(j:Nat) (x:V),cs[j]? =some x->VRel (Mut mo own) own.rho w x (f j)
structure Stay (mo:Nat->Nat->Prop)(own own':Own)(w w':World):Prop where
 cell:∀b x v,w.cell? ⟨b,x,none⟩=some v->¬Mut mo own b x->w'.cell? ⟨b,x,none⟩=some v/\¬Mut mo own' b x
 rho:∀id b,own.rho id=some b->own'.rho id=some b
theorem Stay.v {mo own own' w w'}(h:Stay mo own own' w w'){v:V}{x:Value}(hv:VRel (Mut mo own) own.rho w v x):VRel (Mut mo own') own'.rho w' v x:=hv.keep h.cell h.rho
theorem XRel.of {M:Nat->Nat->Prop}{own:Own}{w:World}{v:V}{x:Value}(h:VRel M own.rho w v x):XRel M own w v x:=by
 cases h<;>(unfold XRel;constructor<;>assumption)
theorem XRel.stay {mo own own' w w'}(h:Stay mo own own' w w')(hl:∀i r,own (.loc i)=some r->own' (.loc i)=some r){v:V}{x:Value}(hv:XRel (Mut mo own) own w v x):XRel (Mut mo own') own' w' v x:=by
 cases v with
 | undef=>trivial
 | loc i off=>obtain ⟨b,n,h1,h2⟩:=hv;exact ⟨b,n,hl _ _ h1,h2⟩
 | _=>exact XRel.of (h.v hv)
theorem TRel.mono {own own':Own}{l l':List Nat}{g0 g1:Nat}{v:V}{tag:Tag}{x:Value}(h:TRel own l g0 v tag x)(hg:g0<=g1)(hl:∀g,g<g0->g∈l'->g∈l)(ho:∀g,g<g0->g∈l'->own' (.tok g)=own (.tok g)):TRel own' l' g1 v tag x:=by
 cases tag with
 | no=>trivial
 | full=>exact h
 | tok g=>
  obtain ⟨h0,h⟩:=h
  refine ⟨by omega,fun hm k es b o n c hv hx=>?_⟩
  rw [ho g h0 hm]
  exact h (hl g h0 hm) k es b o n c hv hx
theorem Keep.refl (acc:Nat->Nat->Prop)(w:World):Keep acc w w:=⟨rfl,rfl,rfl,Nat.le_refl _,fun _ _ _=>rfl,fun _ _ _ h _=>h⟩
theorem aM0 {w:World}{b x:Nat}{v:Value}(h:w.cell? ⟨b,x,none⟩=some v):b<w.heap.size:=by
 unfold World.cell? at h
 rcases Nat.lt_or_ge b w.heap.size with hb | hb
 ·exact hb
 ·simp [Array.getElem?_eq_none hb] at h
theorem Keep.trans {acc acc':Nat->Nat->Prop}{w0 w w':World}(h:Keep acc w0 w)(h':Keep acc' w w')(hs:∀b x,b<w0.heap.size->acc' b x->acc b x):Keep acc w0 w' where
 os:=h'.os.trans h.os
 tape:=h'.tape.trans h.tape
 output:=h'.output.trans h.output
 size:=Nat.le_trans h.size h'.size
 block b hb ha:=(h'.block b (Nat.lt_of_lt_of_le hb h.size) fun x hx=>ha x (hs b x hb hx)).trans (h.block b hb ha)
 cell b x v hc ha:=h'.cell b x v (h.cell b x v hc ha) fun hx=>ha (hs b x (aM0 hc) hx)
theorem Keep.weak {acc acc':Nat->Nat->Prop}{w w':World}(h:Keep acc w w')(hs:∀b x,acc b x->acc' b x):Keep acc' w w':=
 ⟨h.os,h.tape,h.output,h.size,fun b hb ha=>h.block b hb fun x hx=>ha x (hs b x hx),fun b x v hc ha=>h.cell b x v hc fun hx=>ha (hs b x hx)⟩
structure Post (mo:Nat->Nat->Prop)(own:Own)(w:World)(own':Own)(w':World)(T:Key->Prop):Prop where
 keep:Keep own.has w w'
 sub:∀b x,own'.has b x->own.has b x∨w.heap.size<=b
 subB:∀k r,k.live=true->own' k=some r->(∃k0 r0,k0.live=true/\own k0=some r0/\r0.1=r.1)∨w.heap.size<=r.1
 rho:∀id b,own.rho id=some b->own'.rho id=some b
 same:∀k r,own k=some r->¬T k->own' k=some r/\(k.live=true->w'.heap[r.1]? =w.heap[r.1]?)
 new:∀k,¬T k->own k=none->own' k=none
 base:Base mo own' w'
theorem Post.eq {mo own w own' w' T}(p:Post mo own w own' w' T){k:Key}(h:¬T k):own' k=own k:=by
 cases hk:own k with
 | none=>exact p.new k h hk
 | some r=>exact (p.same k r hk h).1
theorem Post.stay {mo own w own' w' T}(p:Post mo own w own' w' T):Stay mo own own' w w' where
 cell b x v hc hm:=⟨p.keep.cell b x v hc fun h=>hm (.inr h),fun h=>by
  rcases h with h | h
  ·exact hm (.inl h)
  ·rcases p.sub b x h with h | h
   ·exact hm (.inr h)
   ·exact absurd (aM0 hc) (by omega)⟩
 rho:=p.rho
theorem Base.bx5 {mo own w}(h:Base mo own w){k:Key}{r:Reg}(e:own k=some r){b x:Nat}(hx:Reg.has r b x):k.live=true:=by
 cases k with
 | ghost id=>have:=h.gone id r e;have:=hx.2;omega
 | _=>rfl
theorem bs1.post {mo own w own' w' T}(p:Post mo own w own' w' T){l l':List Nat}{g0 g1:Nat}{i:Nat}{box:List (V×Tag)}(h:bs1 (Mut mo own) own l g0 w i box)(hT:¬T (.loc i))
  (hg:g0<=g1) (hl:∀g,g<g0->g∈l'->g∈l/\¬T (.tok g)):bs1 (Mut mo own') own' l' g1 w' i box:=by
 intro hne
 obtain ⟨b,cs,ty,h1,h2,h3,h4⟩:=h hne
 obtain ⟨e1,e2⟩:=p.same _ _ h1 hT
 exact ⟨b,cs,ty,e1,(e2 rfl).trans h2,h3,fun j v tag x hv hx=>⟨(h4 j v tag x hv hx).1,p.stay.v (h4 j v tag x hv hx).2.1,(h4 j v tag x hv hx).2.2.mono hg (fun g a b=>(hl g a b).1) (fun g a b=>p.eq (hl g a b).2)⟩⟩
theorem aP0.post {P:Program}{mo own w own' w' T}(p:Post mo own w own' w' T){id:Nat}{o:O}(h:aP0 P (Mut mo own) own w id o)(hT:¬T (.obj id))(hS:∀off,¬T (.spare id off)):aP0 P (Mut mo own') own' w' id o:=by
 cases o with
 | box box=>
  obtain ⟨b,cs,ty,h1,h2,h3,h4⟩:=h
  obtain ⟨e1,e2⟩:=p.same _ _ h1 hT
  refine ⟨b,cs,ty,e1,(e2 rfl).trans h2,h3,fun j v fl x hv hx=>⟨(h4 j v fl x hv hx).1,p.stay.v (h4 j v fl x hv hx).2.1,fun hf=>?_⟩⟩
  have:=(h4 j v fl x hv hx).2.2 hf
  unfold aA6 at this ⊢
  rw [p.eq (hS j)]
  exact this
 | gone=>trivial
 | loop f ps t q pend=>
  obtain ⟨b,r,h1,h2,h3,h4,h5,h6,h7⟩:=h
  obtain ⟨e1,e2⟩:=p.same _ _ h1 hT
  exact ⟨b,r,e1,(e2 rfl).trans h2,h3,h4,h5,h6,h7.1,fun j v x hv hx=>(h7.2 j v x hv hx).imp (fun e=>e) p.stay.v⟩
 | map es clock=>
  obtain ⟨b,es',h1,h2,h3,h4⟩:=h
  obtain ⟨e1,e2⟩:=p.same _ _ h1 hT
  exact ⟨b,es',e1,(e2 rfl).trans h2,h3,fun j k v e hv he=>⟨p.stay.v (h4 j k v e hv he).1,p.stay.v (h4 j k v e hv he).2.1,(h4 j k v e hv he).2.2⟩⟩
theorem DRel.post {n0:Nat}{mo own w own' w' T}(p:Post mo own w own' w' T){d:FuncId×List V}{d':Deferred}(h:DRel n0 (Mut mo own) own w d d'):DRel n0 (Mut mo own') own' w' d d':=by
 rcases h with ⟨h1,r,h2,h3,h4,h5⟩ | ⟨cap,h1,h2,h3⟩
 ·have hr:r<w.heap.size:=(Array.getElem?_eq_some_iff.1 h4).1
  refine .inl ⟨h1,r,h2,h3,(p.keep.block r hr h5).trans h4,fun x hx=>?_⟩
  rcases p.sub r x hx with e | e
  ·exact h5 x e
  ·omega
 ·exact .inr ⟨cap,h1,h2,fun j v x hv hx=>p.stay.v (h3 j v x hv hx)⟩
theorem FR.post {P:Program}{H:ae2}{mo:Nat->Nat->Prop}{acc:Own}{w0:World}{own own':Own}{st st':St}{a:Act}{w w':World}{T:Key->Prop}
  (h:FR P H mo acc w0 own st a w) (p:Post mo own w own' w' T) (ht:st'.t=st.t) (hd:st'.d=st.d) (hg:st.g<=st'.g)
  (hl:∀g,g<st.g->g∈st'.l->g∈st.l/\¬T (.tok g)) (hlt:∀g,g∈st'.l->g<st'.g) (hnt:∀g,g∉st'.l->own' (.tok g)=none)
  (hloc:∀i r,own (.loc i)=some r->own' (.loc i)=some r)
  (hA:∀(i:Nat) (box:List (V×Tag)),st'.a[i]? =some box->(st.a[i]? =some box/\¬T (.loc i))∨bs1 (Mut mo own') own' st'.l st'.g w' i box)
  (hnl:∀i,st'.a.getD i []=[]->own' (.loc i)=none)
  (hO:∀(id:Nat) (o:O),st'.s[id]? =some o->(st.s[id]? =some o/\¬T (.obj id)/\∀off,¬T (.spare id off))∨aP0 P (Mut mo own') own' w' id o)
  (hno:∀id,st'.s.length<=id->own' (.obj id)=none/\own' (.ghost id)=none)
  (hsp:∀id off r,own' (.spare id off)=some r->∃cs v,st'.s[id]? =some (.box cs)/\cs[off]? =some (v,true)):
  FR P H mo acc w0 own' st' a w' where
 sr:=⟨p.base,fun id o ho=>(hO id o ho).elim (fun e=>aP0.post p (h.sr.objs id o e.1) e.2.1 e.2.2) (fun e=>e),hno,hsp⟩
 keep:=h.keep.trans p.keep h.old
 old b x hb hx:=by
  rcases p.sub b x hx with e | e
  ·exact h.old b x hb e
  ·exact absurd (Nat.lt_of_lt_of_le hb h.keep.size) (by omega)
 mlt:=h.mlt
 rho0 id b e:=p.rho id b (h.rho0 id b e)
 oldB k r l e hr:=by
  rcases p.subB k r l e with ⟨k0,r0,l0,e0,e1⟩ | q
  ·obtain ⟨k1,r1,l1,e2,e3⟩:=h.oldB k0 r0 l0 e0 (by rw [e1];exact hr)
   exact ⟨k1,r1,l1,e2,e3.trans e1⟩
  ·exact absurd (Nat.lt_of_lt_of_le hr h.keep.size) (by omega)
 size:=by rw [ht];exact h.size
 slot i v tag x hv hx:=by
  rw [ht] at hv
  exact ⟨(h.slot i v tag x hv hx).1.stay p.stay hloc,(h.slot i v tag x hv hx).2.mono hg (fun g a b=>(hl g a b).1) (fun g a b=>p.eq (hl g a b).2)⟩
 arena i box hb:=(hA i box hb).elim (fun e=>bs1.post p (h.arena i box e.1) e.2 hg hl) (fun e=>e)
 newTok:=hnt
 tokLt:=hlt
 newLoc:=hnl
 dsize:=by rw [hd];exact h.dsize
 dfr i d d' e e':=by rw [hd] at e;exact (h.dfr i d d' e e').post p
 marks:=h.marks
 glob g cs e:=by
  obtain ⟨f,h1,h2,h3⟩:=h.glob g cs e
  exact ⟨f,h1,fun j x hx=>p.stay.cell _ _ _ (h2 j x hx).1 (h2 j x hx).2,fun j x hx=>p.stay.v (h3 j x hx)⟩
theorem FR.put {P:Program}{H:ae2}{mo:Nat->Nat->Prop}{acc:Own}{w0:World}{own:Own}{st:St}{a:Act}{w:World}(h:FR P H mo acc w0 own st a w)(dst:Option Nat)(v:V)(tag:Tag)(x:Value)
  (hv:XRel (Mut mo own) own w v x) (ht:TRel own st.l st.g v tag x):FR P H mo acc w0 own (st.put dst (v,tag)) (a.put dst x) w:=by
 cases dst with
 | none=>exact h
 | some d=>
  exact {h with
   size:=by simp [St.put,Act.put,h.size]
   slot:=fun i v' tag' x' hv' hx'=>by
    simp only [St.put,Act.put] at hv' hx' ⊢
    rw [List.getElem?_set] at hv'
    rw [Array.getElem?_setIfInBounds] at hx'
    by_cases e:d=i
    ·subst e
     rw [if_pos rfl] at hv' hx'
     split at hv'<;>simp at hv'
     split at hx'<;>simp at hx'
     obtain ⟨rfl,rfl⟩:=hv'
     subst hx'
     exact ⟨hv,ht⟩
    ·rw [if_neg e] at hv' hx'
     exact h.slot i v' tag' x' hv' hx'}
theorem norm_x {M:Nat->Nat->Prop}{own:Own}{w:World}{s:Sh}{v v':V}{x:Value}(h:norm s v=some v')(hx:XRel M own w v x):XRel M own w v' x:=by
 cases v with
 | undef=>cases s<;>simp [norm] at h;subst h;trivial
 | loc i o=>cases s<;>simp [norm] at h;subst h;exact hx
 | _=>exact XRel.of (norm_rel s _ _ x h hx)
theorem norm_t {own:Own}{l:List Nat}{g0:Nat}{s:Sh}{v v':V}{tag:Tag}{x:Value}(h:norm s v=some v')(hx:TRel own l g0 v tag x):TRel own l g0 v' tag x:=by
 cases tag with
 | no=>trivial
 | full=>exact hx
 | tok g=>
  refine ⟨hx.1,fun hg k es b o n c e1 e2=>hx.2 hg k es b o n c ?_ e2⟩
  subst e1
  cases s with
  | any=>simp [norm] at h;exact h
  | list k2=>
   cases v<;>simp only [norm,reduceCtorEq] at h
   split at h
   ·rename_i e;simp at h;rw [←e] at h;obtain ⟨h1,h2,h3⟩:=h;rw [h1,h3,h2]
   ·split at h<;>simp at h
  | int k=>cases v<;>simp [norm] at h
  | agg l=>cases v<;>simp only [norm,reduceCtorEq] at h;obtain ⟨cs,_,e⟩:=Option.map_eq_some_iff.1 h;cases e
  | ref l=>cases v<;>simp only [norm,reduceCtorEq] at h;obtain ⟨cs,_,e⟩:=Option.map_eq_some_iff.1 h;cases e
  | tup l=>cases v<;>simp only [norm,reduceCtorEq] at h;obtain ⟨cs,_,e⟩:=Option.map_eq_some_iff.1 h;cases e
  | _=>cases v<;>simp [norm] at h
end Go.Proofs.YtnpjififnhjbbaaDoor.E
namespace Go.Proofs.YtnpjififnhjbbaaDoor.E
open Go
theorem aD7 (M:Nat->Nat->Prop)(ρ:Nat->Option (Nat×Nat))(w:World)(v:Value):aU9 v=.undef∨((aU9 v).good=true/\VRel M ρ w (aU9 v) v):=by
 unfold aU9
 split
 ·exact .inr ⟨rfl,.bool _⟩
 ·exact .inr ⟨rfl,.int _ _⟩
 ·exact .inr ⟨rfl,.str _⟩
 ·exact .inr ⟨rfl,.nilptr⟩
 ·exact .inr ⟨rfl,.nillist _⟩
 ·exact .inr ⟨rfl,.nilmap⟩
 ·exact .inr ⟨rfl,.nilfunc⟩
 ·exact .inr ⟨rfl,.nilif⟩
 ·split
  ·rename_i h
   exact .inr ⟨rfl,.func _ [] [] _ _ h.1 h.2 (fun j p q hp=>by simp at hp) (fun j p q hp=>by simp at hp)⟩
  ·exact .inl rfl
 ·exact .inl rfl
theorem az6 :∀(l:List V),(∀v∈l,v.good=true)->ac5 l=true
 | [],_=>rfl
 | a::r,h=>by simp [ac5];exact ⟨h a (by simp),az6 r fun v hv=>h v (by simp [hv])⟩
theorem bb9 :∀(l:List V),ac5 l=true->∀v∈l,v.good=true
 | [],_,v,hv=>by simp at hv
 | a::r,h,v,hv=>by
  simp [ac5] at h
  rcases List.mem_cons.1 hv with e | e
  ·exact e▸h.1
  ·exact bb9 r h.2 v e
theorem ag6 (M:Nat->Nat->Prop)(own:Own)(w:World)(v:Value):XRel M own w (ofConst v) v:=by
 unfold ofConst
 split
 ·rename_i cs
  split
  ·rename_i h
   refine XRel.of (.agg _ _ (by simp) (az6 _ fun x hx=>?_) fun j x y hx hy=>?_)
   ·rw [List.all_eq_true] at h
    have h1:=h x hx
    obtain ⟨y,_,rfl⟩:=List.mem_map.1 hx
    rcases aD7 M own.rho w y with e | e
    ·rw [e] at h1;simp at h1
    ·exact e.1
   ·rw [List.all_eq_true] at h
    have h1:=h x (List.mem_of_getElem? hx)
    rw [List.getElem?_map,Array.getElem?_toList,hy] at hx
    simp at hx
    subst hx
    rcases aD7 M own.rho w y with e | e
    ·rw [e] at h1;simp at h1
    ·exact e.2
  ·trivial
 ·rcases aD7 M own.rho w v with e | e
  ·rw [e];trivial
  ·exact XRel.of e.2
section
variable {P:Program} {H:ae2} {mo:Nat->Nat->Prop} {acc:Own} {w0:World} {own:Own} {st:St} {a:Act} {w:World}
theorem FR.tmp (h:FR P H mo acc w0 own st a w)(t:Nat):XRel (Mut mo own) own w (st.t.getD t (.undef,.no)).1 (a.tmps.getD t undef)/\TRel own st.l st.g (st.t.getD t (.undef,.no)).1 (st.t.getD t (.undef,.no)).2 (a.tmps.getD t undef):=by
 have hs:=h.size
 by_cases ht:t<st.t.length
 ·have h1:st.t[t]? =some st.t[t]:=List.getElem?_eq_getElem ht
  have h2:a.tmps[t]? =some (a.tmps[t]'(by omega)):=Array.getElem?_eq_getElem (by omega)
  have:=h.slot t _ _ _ h1 h2
  simpa [List.getD_eq_getElem?_getD,h1,h2,Array.getD_eq_getD_getElem?] using this
 ·rw [List.getD_eq_getElem?_getD,List.getElem?_eq_none (by omega)]
  exact ⟨trivial,trivial⟩
theorem FR.ev (h:FR P H mo acc w0 own st a w)(o:Operand):XRel (Mut mo own) own w (E.ev H st o).1 (a.eval o)/\TRel own st.l st.g (E.ev H st o).1 (E.ev H st o).2 (a.eval o):=by
 cases o with
 | tmp t=>exact h.tmp t
 | const v=>
  refine ⟨ag6 _ _ _ v,?_⟩
  show TRel own st.l st.g (ofConst v) (bm2 v) v
  unfold bm2
  split
  ·intro a n c e;simp at e;omega
  ·trivial
 | global g=>
  simp only [E.ev]
  cases hg:H.glob g with
  | none=>exact ⟨trivial,trivial⟩
  | some cs=>
   obtain ⟨f,h0,h1,h2⟩:=h.glob g cs hg
   exact ⟨XRel.of (.ref cs g 0 f h0 (by simpa using h1) h2),trivial⟩
 | func f=>exact ⟨XRel.of (.func (.func f) [] [] #[] #[] rfl rfl (fun j p q hp=>by simp at hp) (fun j p q hp=>by simp at hp)),trivial⟩
theorem XRel.to {M:Nat->Nat->Prop}{w:World}{v:V}{x:Value}(h:XRel M own w v x)(h1:v≠.undef)(h2:∀i o,v≠.loc i o):VRel M own.rho w v x:=by
 cases v<;>first | exact h | exact absurd rfl h1 | exact absurd rfl (h2 _ _)
theorem ab3 {α β:Type}{x:Sem α}{f:α->Sem β}{r:α}{w w1:World}(h:x.run P w=.ok r w1):(x >>= f).run P w=(f r).run P w1:=by
 show (Sem.bind x f).run P w=_
 rw [Sem.run_bind',h]
 rfl
theorem run_intOp (op:BinOp)(t:TypeId)(k:IntKind)(m n:Int)(v:V)(hv:intOp op k m n=some v)(x y:Operand):∃u,(do eqGuard op t x y (.int k m) (.int k n);binOp op t (.int k m) (.int k n)).run P w=.ok u w/\VRel (Mut mo own) own.rho w v u:=by
 have hg:(eqGuard op t x y (.int k m) (.int k n)).run P w=.ok () w:=by unfold eqGuard;split<;>rfl
 cases op<;>simp [intOp] at hv<;>first
  | (subst hv;exact ⟨_,(ab3 hg).trans (by simp [binOp,Op.intArith,Op.intBits,Op.intCmp];rfl),by first | exact .int _ _ | exact .bool _⟩)
  | (subst hv;exact ⟨_,(ab3 hg).trans (by simp [binOp,Op.intArith,Op.intBits,Op.intCmp]),by first | exact .int _ _ | exact .bool _⟩)
  | (obtain ⟨h0,rfl⟩:=hv;exact ⟨_,(ab3 hg).trans (by simp [binOp,Op.intDiv,h0]),.int _ _⟩)
theorem run_strOp (op:BinOp)(t:TypeId)(m n:ByteArray)(v:V)(hv:strOp op m n=some v)(x y:Operand):∃u,(do eqGuard op t x y (.string m) (.string n);binOp op t (.string m) (.string n)).run P w=.ok u w/\VRel (Mut mo own) own.rho w v u:=by
 have hg:(eqGuard op t x y (.string m) (.string n)).run P w=.ok () w:=by unfold eqGuard;split<;>rfl
 cases op<;>simp [strOp] at hv<;>first
  | (subst hv;exact ⟨_,(ab3 hg).trans (by simp [binOp,Op.stringOp];rfl),.bool _⟩)
  | (subst hv;exact ⟨_,(ab3 hg).trans (by simp [binOp,Op.stringOp]),.bool _⟩)
  | (obtain ⟨h0,rfl⟩:=hv;exact ⟨_,(ab3 hg).trans (by simp only [binOp];exact run_string_add_sum w m n h0),.str _⟩)
def bv8 :Value->Bool | .int _ _ | .string _ | .float _ _ | .complex _ _ _=>false | _=>true
theorem binOp_eql (t:TypeId)(x y:Value)(h:bv8 x=true):binOp .eql t x y=(do pure (.bool (←Op.equal t x y)))/\binOp .neq t x y=(do pure (.bool (!(←Op.equal t x y)))):=by
 cases x<;>first | (simp [bv8] at h;done) | (cases y<;>exact ⟨rfl,rfl⟩)
theorem eqB_run (d:Nat)(t:TypeId)(x y:V)(b:Bool)(h:eqB P t x y=some b)(x' y':Value)(hx:XRel (Mut mo own) own w x x')(hy:XRel (Mut mo own) own w y y'):
  (Op.equalIn (d+1) t x' y').run P w=.ok b w/\¬(x'=.nilIface/\y'=.nilIface)/\(∀c,x'≠.agg c)/\(bv8 x'=true∨(∃k m k' n,x=.int k m/\y=.int k' n)∨(∃s s',x=.str s/\y=.str s')):=by
 unfold eqB at h
 split at h<;>(try (simp at h;done))
 all_goals (rename_i ht;simp only [XRel] at hx hy;rw [Op.equalIn,ab3 (run_underlying ht w)])
 case h_1=>cases hx;cases hy;simp at h;subst h;exact ⟨rfl,by simp,by simp,.inl rfl⟩
 case h_2=>cases hx;cases hy;split at h<;>simp at h;subst h;rename_i e;subst e;exact ⟨by simp,by simp,by simp,.inr (.inl ⟨_,_,_,_,rfl,rfl⟩)⟩
 case h_3=>cases hx;cases hy;simp at h;subst h;exact ⟨rfl,by simp,by simp,.inr (.inr ⟨_,_,rfl,rfl⟩)⟩
 case h_4=>
  rename_i p i a j b2
  cases hx with
  | obj _ _ c1 h1=>
  cases hy with
  | obj _ _ c2 h2=>
  split at h
  ·rename_i e
   obtain ⟨e,hp⟩:=e
   subst e
   rw [h1] at h2
   injection h2 with h2
   injection h2 with h2 _
   subst h2
   injection h with h
   subst h
   have hsz:(sizeOf p).run P w=.ok (P.cellsOf p) w:=by
    cases hi:P.info? p with
    | none=>simp [Program.cellsOf,hi] at hp
    | some i=>simp [sizeOf,typeInfo,hi,Program.cellsOf]
   refine ⟨(ab3 hsz).trans ?_,by simp,by simp,.inl rfl⟩
   simp [hp,sameAddr]
   cases e:a==b2 with
   | true=>rw [beq_iff_eq.1 e];simp
   | false=>exact beq_eq_false_iff_ne.2 fun q=>by injection q with _ q;rw [q] at e;simp at e
  ·cases h
 all_goals (simp at h;subst h)
 all_goals first
  | (cases hx;cases hy;exact ⟨rfl,by simp,by simp,.inl rfl⟩)
  | (obtain ⟨_,_,_,rfl⟩:=hx;cases hy;exact ⟨rfl,by simp,by simp,.inl rfl⟩)
  | (obtain ⟨_,_,_,rfl⟩:=hy;cases hx;exact ⟨rfl,by simp,by simp,.inl rfl⟩)
  | (cases b<;>simp at hx<;>cases hx<;>cases hy<;>exact ⟨rfl,by simp,by simp,.inl rfl⟩)
theorem ptrT_is {op:BinOp}{t:TypeId}{yo:Operand}{n:Nat}{neg:Bool}(h:ptrT P op t yo=some (n,neg)):∃p,P.underlying t=some (.pointer p)/\n=P.cellsOf p/\(op=.eql/\neg=false∨op=.neq/\neg=true):=by
 unfold ptrT at h
 have fin:∀(op:BinOp) (nn:Bool),(op=.eql/\nn=false∨op=.neq/\nn=true)->(match P.underlying t with | some (.pointer p)=>some (P.cellsOf p,nn) | _=>none)=some (n,neg)->∃p,P.underlying t=some (.pointer p)/\n=P.cellsOf p/\(op=.eql/\neg=false∨op=.neq/\neg=true):=by
  intro op nn ho h
  split at h
  ·rename_i p hu
   injection h with h
   injection h with e1 e2
   subst e2
   exact ⟨p,hu,e1.symm,ho⟩
  ·cases h
 cases yo with
 | const v=>simp at h
 | _=>cases op with
  | eql=>exact fin .eql false (.inl ⟨rfl,rfl⟩) (by rw [←h];cases P.underlying t with | none=>rfl | some d=>cases d<;>rfl)
  | neq=>exact fin .neq true (.inr ⟨rfl,rfl⟩) (by rw [←h];cases P.underlying t with | none=>rfl | some d=>cases d<;>rfl)
  | _=>simp at h
theorem ptr_ne_run (t p:TypeId)(ht:P.underlying t=some (.pointer p))(hp:P.cellsOf p≠0)(b1 o1 b2 o2:Nat)(hne:b1≠b2){ca cb:Array Value}{ta tb:TypeId}(ha:w.heap[b1]? =some (.cells ca ta (0,0)))(hb:w.heap[b2]? =some (.cells cb tb (0,0)))(x y:Operand)(op:BinOp)(neg:Bool)(hop:op=.eql/\neg=false∨op=.neq/\neg=true):
  ∃u,(do eqGuard op t x y (.pointer (some ⟨b1,o1,none⟩)) (.pointer (some ⟨b2,o2,none⟩));binOp op t (.pointer (some ⟨b1,o1,none⟩)) (.pointer (some ⟨b2,o2,none⟩))).run P w=.ok u w/\VRel (Mut mo own) own.rho w (.bool neg) u:=by
 have hsz:(sizeOf p).run P w=.ok (P.cellsOf p) w:=by
  cases hi:P.info? p with
  | none=>simp [Program.cellsOf,hi] at hp
  | some i=>simp [sizeOf,typeInfo,hi,Program.cellsOf]
 have he:(Op.equal t (.pointer (some ⟨b1,o1,none⟩)) (.pointer (some ⟨b2,o2,none⟩))).run P w=.ok false w:=by
  show (Op.equalIn (9999+1) t _ _).run P w=_
  rw [Op.equalIn,ab3 (run_underlying ht w)]
  refine (ab3 hsz).trans ?_
  have h2:=run_sameAddr_other (P:=P) (w:=w) (a:=⟨b1,o1,none⟩) (b:=⟨b2,o2,none⟩) (fun e=>hne (by injection e)) ha hb
  simp [hp,h2]
 have hg:∀op,(eqGuard op t x y (.pointer (some ⟨b1,o1,none⟩)) (.pointer (some ⟨b2,o2,none⟩))).run P w=.ok () w:=fun op=>by unfold eqGuard;split<;>rfl
 rcases hop with ⟨rfl,rfl⟩ | ⟨rfl,rfl⟩
 ·exact ⟨_,(ab3 (hg _)).trans (by rw [(binOp_eql t _ _ rfl).1,ab3 he];rfl),.bool _⟩
 ·exact ⟨_,(ab3 (hg _)).trans (by rw [(binOp_eql t _ _ rfl).2,ab3 he];rfl),.bool _⟩
theorem ax8 (t:TypeId)(d:TypeDesc)(h:P.underlying t=some d)(w:World):(isAgg t).run P w=.ok (af4 P t) w:=by
 unfold isAgg af4
 rw [ab3 (run_underlying h w),h]
 cases d<;>rfl
theorem aa2 {α:Type}{b:Bool}{x:Option α}{r:α}(h:ck b x=some r):b=true/\x=some r:=by
 cases b
 ·simp [ck] at h
 ·exact ⟨rfl,by simpa [ck] using h⟩
theorem eqB_under {t:TypeId}{x y:V}{b:Bool}(h:eqB P t x y=some b):∃d,P.underlying t=some d:=by
 cases hd:P.underlying t with
 | some d=>exact ⟨d,rfl⟩
 | none=>unfold eqB at h;rw [hd] at h;simp at h
theorem bk8 (d:Nat)(xs ys:List V)(xs' ys':Array Value)(sx:xs'.size=xs.length)(sy:ys'.size=ys.length)
  (hx:∀(j:Nat) (x:V) (y:Value),xs[j]? =some x->xs'[j]? =some y->VRel (Mut mo own) own.rho w x y) (hy:∀(j:Nat) (x:V) (y:Value),ys[j]? =some x->ys'[j]? =some y->VRel (Mut mo own) own.rho w x y):
  ∀(fs:List Field) (b:Bool),eqFs P xs ys fs=some b->(Op.eqFields (d+1) xs' ys' fs).run P w=.ok b w
 | [],b,h=>by simp [eqFs] at h;subst h;rfl
 | f::r,b,h=>by
  rw [eqFs] at h
  obtain ⟨h0,h⟩:=aa2 h
  simp at h0
  obtain ⟨x,ex,h⟩:=Option.bind_eq_some_iff.1 h
  obtain ⟨y,ey,h⟩:=Option.bind_eq_some_iff.1 h
  obtain ⟨b',eb,h⟩:=Option.bind_eq_some_iff.1 h
  obtain ⟨dd,hd⟩:=eqB_under eb
  have lx:f.offset<xs'.size:=by rw [sx];exact (List.getElem?_eq_some_iff.1 ex).1
  have ly:f.offset<ys'.size:=by rw [sy];exact (List.getElem?_eq_some_iff.1 ey).1
  have e1:xs'[f.offset]? =some xs'[f.offset]:=Array.getElem?_eq_getElem lx
  have e2:ys'[f.offset]? =some ys'[f.offset]:=Array.getElem?_eq_getElem ly
  have p1:(part f.type xs' f.offset).run P w=.ok xs'[f.offset] w:=by
   unfold part;rw [ab3 (ax8 _ _ hd w),h0.2];simp [e1]
  have p2:(part f.type ys' f.offset).run P w=.ok ys'[f.offset] w:=by
   unfold part;rw [ab3 (ax8 _ _ hd w),h0.2];simp [e2]
  have p3:=(eqB_run (mo:=mo) (own:=own) (w:=w) d f.type x y b' eb _ _ (XRel.of (hx _ _ _ ex e1)) (XRel.of (hy _ _ _ ey e2))).1
  rw [Op.eqFields,if_pos (by simpa using h0.1),ab3 p1,ab3 p2,ab3 p3]
  cases b' with
  | true=>simp at h;exact bk8 d xs ys xs' ys' sx sy hx hy r b h
  | false=>simp at h;subst h;rfl
theorem eqV_run (t:TypeId)(x y:V)(b:Bool)(h:eqV P t x y=some b)(x' y':Value)(hx:XRel (Mut mo own) own w x x')(hy:XRel (Mut mo own) own w y y')(op:BinOp)(p q:Operand):
  (Op.equal t x' y').run P w=.ok b w/\(eqGuard op t p q x' y').run P w=.ok () w/\(bv8 x'=true∨(∃k m k' n,x=.int k m/\y=.int k' n)∨(∃s s',x=.str s/\y=.str s')):=by
 unfold eqV at h
 split at h
 ·rename_i fs xs ys ht
  obtain ⟨h0,h⟩:=aa2 h
  simp at h0
  cases hx with
  | agg _ xs' sx gx hx=>
  cases hy with
  | agg _ ys' sy gy hy=>
  have hf:P.fieldsOf t=fs:=by simp [Program.fieldsOf,ht]
  refine ⟨?_,?_,.inl rfl⟩
  ·show (Op.equalIn (9999+1) t _ _).run P w=_
   rw [run_equalIn_struct w 9999 t xs' ys' (by rw [hf];exact ht) h0.1,hf]
   exact bk8 9998 xs ys xs' ys' sx sy hx hy fs.toList b h
  ·unfold eqGuard
   have key:(Sem.run P (program >>= fun a=>program >>= fun b=>if (!(a.eqGuardType b.depth t))=true then pure () else (do
      if ←Op.eqGuardIn Op.maxDepth t (.agg xs') (.agg ys') then unsupported (.noEntry "binop/eql: two nil values of an interface type with methods, in a part of a struct or an array"))) w)=.ok () w:=by
    rw [ab3 (w1:=w) (r:=P) rfl,ab3 (w1:=w) (r:=P) rfl,if_pos (by simpa using h0.2)]
    rfl
   split
   ·exact key
   ·exact key
   ·rfl
 ·obtain ⟨h1,h2,h3,h4⟩:=eqB_run 9999 t _ _ b h x' y' hx hy
  refine ⟨h1,?_,h4⟩
  have key2:∀z1 z2:Sem Unit,(match (generalizing:=false) x',y' with | .nilIface,.nilIface=>z1 | .agg _,.agg _=>z2 | _,_=>pure ():Sem Unit).run P w=.ok () w:=by
   intro z1 z2
   split
   ·exact absurd ⟨rfl,rfl⟩ h2
   ·exact absurd rfl (h3 _)
   ·rfl
  unfold eqGuard
  split
  ·exact key2 _ _
  ·exact key2 _ _
  ·rfl
end
end Go.Proofs.YtnpjififnhjbbaaDoor.E
namespace Go.Proofs.YtnpjififnhjbbaaDoor.E
open Go
section
variable {P:Program} {H:ae2} {mo:Nat->Nat->Prop} {acc:Own} {w0:World} {own:Own} {st:St} {a:Act} {w:World}
theorem binV_run (op:BinOp)(t:TypeId)(x y v:V)(hv:binV P op t x y=some v)(x' y':Value)(hx:XRel (Mut mo own) own w x x')(hy:XRel (Mut mo own) own w y y')(p q:Operand):
  ∃u,(do eqGuard op t p q x' y';binOp op t x' y').run P w=.ok u w/\VRel (Mut mo own) own.rho w v u:=by
 unfold binV at hv
 split at hv
 ·rename_i k m k' n
  cases hx;cases hy
  split at hv<;>simp at hv
  subst hv
  rename_i h0
  exact ⟨_,(ab3 (by unfold eqGuard;rfl)).trans (by simp [binOp,Op.shift,h0]),.int _ _⟩
 ·rename_i k m k' n
  cases hx;cases hy
  split at hv<;>simp at hv
  subst hv
  rename_i h0
  exact ⟨_,(ab3 (by unfold eqGuard;rfl)).trans (by simp [binOp,Op.shift,h0]),.int _ _⟩
 ·rename_i k m k' n _ _
  cases hx;cases hy
  split at hv
  ·rename_i e;subst e
   exact run_intOp op t _ _ _ v hv p q
  ·simp at hv
 ·cases hx;cases hy
  exact run_strOp op t _ _ v hv p q
 ·rename_i n1 n2
  obtain ⟨b,hb,rfl⟩:=Option.map_eq_some_iff.1 hv
  obtain ⟨h1,h2,h3⟩:=eqV_run t _ _ b hb x' y' hx hy .eql p q
  refine ⟨_,(ab3 h2).trans ?_,.bool b⟩
  rcases h3 with h3 | ⟨k,m,k',n,e1,e2⟩ | ⟨s,s',e1,e2⟩
  ·rw [(binOp_eql t x' y' h3).1,ab3 h1];rfl
  ·exact absurd e2 (n1 _ _ _ _ e1)
  ·exact absurd e2 (n2 _ _ e1)
 ·rename_i n1 n2
  obtain ⟨b,hb,rfl⟩:=Option.map_eq_some_iff.1 hv
  obtain ⟨h1,h2,h3⟩:=eqV_run t _ _ b hb x' y' hx hy .neq p q
  refine ⟨_,(ab3 h2).trans ?_,.bool !b⟩
  rcases h3 with h3 | ⟨k,m,k',n,e1,e2⟩ | ⟨s,s',e1,e2⟩
  ·rw [(binOp_eql t x' y' h3).2,ab3 h1];rfl
  ·exact absurd e2 (n1 _ _ _ _ e1)
  ·exact absurd e2 (n2 _ _ e1)
 ·simp at hv
theorem unV_run (op:UnOp)(x v:V)(hv:unV op x=some v)(x':Value)(hx:XRel (Mut mo own) own w x x'):∃u,(Op.unary op x').run P w=.ok u w/\VRel (Mut mo own) own.rho w v u:=by
 unfold unV at hv
 split at hv<;>simp only [Option.some.injEq,reduceCtorEq] at hv<;>subst hv<;>cases hx
 ·exact ⟨_,rfl,.int _ _⟩
 ·exact ⟨_,rfl,.bool _⟩
theorem bc7 :∀(es:List V) (l:List UInt8),es.mapM bg8 =some l->es.length=l.length/\∀(j:Nat) (hj:j<l.length),es[j]? =some (.int .u8 (l[j].toNat:Int))
 | [],l,h=>by simp at h;subst h;simp
 | e::r,l,h=>by
  simp only [List.mapM_cons,Option.bind_eq_bind,Option.pure_def] at h
  obtain ⟨c,hc,h⟩:=Option.bind_eq_some_iff.1 h
  obtain ⟨l',hl,h⟩:=Option.bind_eq_some_iff.1 h
  simp at h
  subst h
  obtain ⟨h1,h2⟩:=bc7 r l' hl
  refine ⟨by simp [h1],fun j hj=>?_⟩
  cases j with
  | succ j=>simpa using h2 j (by simpa using hj)
  | zero=>
   unfold bg8 at hc
   split at hc
   ·split at hc<;>simp at hc
    rename_i n hn
    subst hc
    have h256:n.toNat<256:=by omega
    have e1:((n.toNat.toUInt8).toNat:Int)=n:=by
     rw [show (n.toNat.toUInt8).toNat=n.toNat from by simp [Nat.toUInt8,Nat.mod_eq_of_lt h256]]
     omega
    show some (V.int .u8 n)=some (V.int .u8 ((n.toNat.toUInt8).toNat:Int))
    rw [e1]
   ·simp at hc
theorem convV_run (src dst:TypeId)(x v:V)(hv:bz7 P src dst x=some v)(x':Value)(hx:XRel (Mut mo own) own w x x'):∃u,(convert src dst x').run P w=.ok u w/\VRel (Mut mo own) own.rho w v u:=by
 unfold bz7 at hv
 split at hv
 ·rename_i hs hd
  simp at hv;subst hv;cases hx
  exact ⟨_,by unfold convert;rw [ab3 (run_underlying hs w),ab3 (run_underlying hd w)];rfl,.int _ _⟩
 ·rename_i hs hd
  simp at hv;subst hv;cases hx
  refine ⟨_,by unfold convert;rw [ab3 (run_underlying hs w),ab3 (run_underlying hd w)];rfl,.str _⟩
 ·rename_i e nn k es hs hd
  split at hv
  ·rename_i he
   obtain ⟨l,hl,rfl⟩:=Option.map_eq_some_iff.1 hv
   cases hx with
   | nillist=>
    obtain rfl:l=[]:=by
     cases l with
     | nil=>rfl
     | cons c r=>exact absurd (bc7 [] _ hl).1 (by simp)
    refine ⟨_,by rw [run_convert_bytes_string w src dst e none 0 0 hs he hd];rfl,.str _⟩
   | list _ _ b o c f n hn hc hk hg h1 h2 sp hsp=>
    obtain ⟨e1,e2⟩:=bc7 es l hl
    have hn':n=l.length:=by omega
    subst hn'
    refine ⟨_,run_convert_bytes_back w src dst e ⟨b,o,sp⟩ c l hs he hd fun j hj=>?_,.str _⟩
    obtain rfl:sp=none:=by rcases hsp with h | h;exact h;omega
    have hj2:=e2 j hj
    have hk1:k=1:=by have:=hk _ (List.mem_of_getElem? hj2);simpa [V.cells] using this.symm
    subst hk1
    have hx1:=(h1 j _ 0 _ hj2 rfl).1
    have hx2:=h2 j _ 0 _ hj2 rfl
    have:f j 0=.int .u8 (l[j].toNat:Int):=by generalize f j 0=z at hx2;cases hx2;rfl
    rw [←this,←hx1]
    simp [Addr.add]
    split<;>simp_all
  ·simp at hv
 ·simp at hv
theorem bf9 {α:Type}(l:List α)(i j n:Nat)(x:α)(h:((l.take n).drop i)[j]? =some x):l[i+j]? =some x/\i+j<n:=by
 rw [List.getElem?_drop,List.getElem?_take] at h
 split at h
 ·exact ⟨h,by omega⟩
 ·simp at h
theorem bu4 {M:Nat->Nat->Prop}{ρ:Nat->Option (Nat×Nat)}{nn:Bool}{k:Nat}{es:List V}{A:Option Addr}{n c:Nat}(h:VRel M ρ w (.list nn k es) (.slice A n c))(l hh m size:Nat)(h1:l<=hh)(h2:hh<=es.length)(h3:hh<=m)(hm:m<=c)
  (hk:nn=true->k=size):VRel M ρ w (.list nn k ((es.take hh).drop l)) (.slice (if m=l then A else A.map (·.add (l*size))) (hh-l) (m-l)):=by
 cases h with
 | nillist=>
  simp at h2
  obtain rfl:hh=0:=by omega
  obtain rfl:l=0:=by omega
  obtain rfl:m=0:=by omega
  exact .nillist k
 | list _ _ b o c f n hn hc hkk hg f1 f2 sp hsp=>
  obtain rfl:=hk rfl
  by_cases e:m=l
  ·rw [if_pos e]
   obtain rfl:hh=l:=by omega
   have:(es.take hh).drop hh=[]:=by simp
   rw [this,e]
   simp only [Nat.sub_self]
   exact .list k [] b o 0 f 0 rfl (Nat.le_refl _) (by simp) (by simp) (fun i e j x he=>by simp at he) (fun i e j x he=>by simp at he) sp (.inr rfl)
  ·rw [if_neg e]
   obtain rfl:sp=none:=by rcases hsp with h | h;exact h;omega
   have ha:(some (⟨b,o,none⟩:Addr)).map (·.add (l*k))=some ⟨b,o+l*k,none⟩:=by
    simp only [Option.map_some,Addr.add]
    split
    ·rename_i h0;rw [h0];rfl
    ·rfl
   rw [ha]
   refine .list k _ b (o+l*k) (m-l) (fun i j=>f (l+i) j) (hh-l) (by simp;omega) (by omega) (fun e he=>hkk e (List.mem_of_mem_take (List.mem_of_mem_drop he))) (fun e he=>hg e (List.mem_of_mem_take (List.mem_of_mem_drop he))) ?_ ?_
   ·intro i e j x he hx
    obtain ⟨g1,g2⟩:=bf9 _ _ _ _ _ he
    have:=f1 (l+i) e j x g1 hx
    rw [show o+l*k+i*k+j=o+(l+i)*k+j by rw [Nat.add_mul];omega]
    exact this
   ·intro i e j x he hx
    exact f2 (l+i) e j x (bf9 _ _ _ _ _ he).1 hx
theorem aD9 {v:V}{n:Int}(h:ap8 v=some n){x:Value}(hx:XRel (Mut mo own) own w v x):∃k,x=.int k n:=by
 unfold ap8 at h
 split at h<;>simp at h
 subst h
 cases hx
 exact ⟨_,rfl⟩
theorem run_sliceBound (k:IntKind)(i:Int)(y:Nat)(code:BoundsCode)(h1:0<=i)(h2:i<=y):(Instr.sliceBound (.int k i) y code).run P w=.ok i.toNat w:=by
 unfold Instr.sliceBound
 rw [ab3 (w1:=w) (r:=(k,i)) rfl]
 simp [h1,h2]
def OX (M:Nat->Nat->Prop)(own:Own)(w:World):Option V->Option Value->Prop
 | none,none=>True
 | some v,some x=>XRel M own w v x
 | _,_=>False
theorem run_sizeOf {t:TypeId}{i:TypeInfo}(h:P.info? t=some i)(w:World):(sizeOf t).run P w=.ok (P.cellsOf t) w:=by
 unfold sizeOf typeInfo
 simp [h,Program.cellsOf]
theorem aq5 {t:TypeId}(h:P.cellsOf t≠0)(w:World):(sizeOf t).run P w=.ok (P.cellsOf t) w:=by
 cases hi:P.info? t with
 | none=>simp [Program.cellsOf,hi] at h
 | some i=>exact run_sizeOf hi w
def iv (p:IntKind×Int):Value:=.int p.1 p.2
def loI (n:Int):Option (IntKind×Int)->Int
 | some p=>p.2
 | none=>n
theorem ar9 (isSlice:Bool)(len cap:Nat)(lo hi mx:Option (IntKind×Int))(h0:mx.isSome=true->hi.isSome=true)(h1:0<=loI 0 lo)(h2:loI 0 lo<=loI len hi)(h3:loI len hi<=loI cap mx)(h4:loI cap mx<=cap):
  (Instr.sliceBounds isSlice len cap (lo.map iv) (hi.map iv) (mx.map iv)).run P w=.ok ((loI 0 lo).toNat,(loI len hi).toNat,(loI cap mx).toNat) w:=by
 rcases mx with _ | ⟨km,M⟩<;>rcases hi with _ | ⟨kh,Hi⟩<;>rcases lo with _ | ⟨kl,L⟩<;>simp only [loI,Option.isSome_some,Option.isSome_none,forall_const,Bool.false_eq_true,imp_self,false_imp_iff] at h0 h1 h2 h3 h4 ⊢
 all_goals (unfold Instr.sliceBounds;simp only [Option.map_some,Option.map_none,iv])
 ·rfl
 ·refine (ab3 (run_sliceBound kl L len _ h1 h2)).trans ?_;rfl
 ·refine (ab3 (run_sliceBound kh Hi cap _ (by omega) h3)).trans ?_;rfl
 ·refine (ab3 (run_sliceBound kh Hi cap _ (by omega) h3)).trans ?_
  refine (ab3 (run_sliceBound kl L Hi.toNat _ h1 (by omega))).trans ?_;rfl
 ·refine (ab3 (run_sliceBound km M cap _ (by omega) h4)).trans ?_
  refine (ab3 (run_sliceBound kh Hi M.toNat _ (by omega) (by omega))).trans ?_;rfl
 ·refine (ab3 (run_sliceBound km M cap _ (by omega) h4)).trans ?_
  refine (ab3 (run_sliceBound kh Hi M.toNat _ (by omega) (by omega))).trans ?_
  refine (ab3 (run_sliceBound kl L Hi.toNat _ h1 (by omega))).trans ?_;rfl
theorem intO {o:Option V}{o':Option Value}(h:OX (Mut mo own) own w o o')(n L:Int)(hl:au1 n o=some L):∃p:Option (IntKind×Int),o'=p.map iv/\loI n p=L/\p.isSome=o.isSome:=by
 cases o with
 | none=>cases o' with
  | none=>exact ⟨none,rfl,by simpa [au1,loI] using hl,rfl⟩
  | some _=>exact h.elim
 | some v=>cases o' with
  | none=>exact h.elim
  | some x=>obtain ⟨k,rfl⟩:=aD9 hl h;exact ⟨some (k,L),rfl,rfl,rfl⟩
theorem sliceL_run (t e:TypeId)(ht:P.underlying t=some (.slice e))(i:TypeInfo)(hi:P.info? e=some i)(nn:Bool)(k:Nat)(es:List V)(tag:Tag)(lo hi' mx:Option V)(r:V×Tag)(hr:aM7 nn k es tag lo hi' mx=some r)
  (hk:nn=true->k=P.cellsOf e) (x:Value) (hx:VRel (Mut mo own) own.rho w (.list nn k es) x) (l:List Nat) (g0:Nat) (htag:TRel own l g0 (.list nn k es) tag x) (lo' hi'' mx':Option Value)
  (hlo:OX (Mut mo own) own w lo lo') (hhi:OX (Mut mo own) own w hi' hi'') (hmx:OX (Mut mo own) own w mx mx'):
  ∃u,(Instr.sliceAt t x lo' hi'' mx').run P w=.ok u w/\VRel (Mut mo own) own.rho w r.1 u/\TRel own l g0 r.1 r.2 u:=by
 have hsz:=run_sizeOf hi w
 obtain ⟨A,n,c,rfl,hn,hc⟩:∃A n c,x=.slice A n c/\n=es.length/\n<=c:=by
  cases hx with
  | nillist=>exact ⟨_,_,_,rfl,rfl,Nat.le_refl _⟩
  | list _ _ b o c f n hn hc=>exact ⟨_,_,_,rfl,hn.symm,hc⟩
 subst hn
 have fin:∀(L Hh m:Nat),L<=Hh->Hh<=es.length->Hh<=m->m<=c->(Instr.sliceBounds true es.length c lo' hi'' mx').run P w=.ok (L,Hh,m) w ->
   (Instr.sliceAt t (.slice A es.length c) lo' hi'' mx').run P w=.ok (.slice (if m=L then A else A.map (·.add (L*P.cellsOf e))) (Hh-L) (m-L)) w:=by
  intro L Hh m _ _ _ _ hb
  unfold Instr.sliceAt
  refine (ab3 (run_underlying ht w)).trans ?_
  show (Instr.slice t (.slice A es.length c) lo' hi'' mx').run P w=_
  unfold Instr.slice
  refine (ab3 (run_underlying ht w)).trans ?_
  refine (ab3 hb).trans ?_
  refine (ab3 hsz).trans ?_
  rfl
 cases mx with
 | some mv=>
  obtain ⟨mx'',rfl⟩:∃y,mx'=some y:=by cases mx' with | none=>exact hmx.elim | some y=>exact ⟨y,rfl⟩
  simp only [aM7] at hr
  obtain ⟨M,hM,hr⟩:=Option.bind_eq_some_iff.1 hr
  obtain ⟨Hi,hH,hr⟩:=Option.bind_eq_some_iff.1 hr
  obtain ⟨L,hL,hr⟩:=Option.bind_eq_some_iff.1 hr
  split at hr
  ·rename_i hc4
   simp only [Option.some.injEq] at hr
   subst hr
   obtain ⟨hv,rfl,hHv⟩:=Option.bind_eq_some_iff.1 hH
   obtain ⟨pm,em,lm,sm⟩:=intO hmx c M hM
   obtain ⟨ph,rfl,lh,sh⟩:=intO hhi es.length Hi hHv
   obtain ⟨pl,rfl,ll,sl⟩:=intO hlo 0 L hL
   rw [em] at fin ⊢
   have hb:=ar9 (P:=P) (w:=w) true es.length c pl ph pm (fun _=>by rw [sh];rfl) (by omega) (by omega) (by omega) (by omega)
   rw [ll,lh,lm] at hb
   refine ⟨_,fin L.toNat Hi.toNat M.toNat (by omega) (by omega) (by omega) (by omega) hb,bu4 hx _ _ _ _ (by omega) (by omega) (by omega) (by omega) hk,?_⟩
   by_cases e:Hi=M
   ·rw [if_pos e]
    intro a n c' h
    injection h with h1 h2 h3
    subst e
    omega
   ·rw [if_neg e];trivial
  ·simp at hr
 | none=>
  obtain rfl:mx'=none:=by cases mx' with | none=>rfl | some y=>exact hmx.elim
  simp only [aM7] at hr
  obtain ⟨Hi,hH,hr⟩:=Option.bind_eq_some_iff.1 hr
  obtain ⟨L,hL,hr⟩:=Option.bind_eq_some_iff.1 hr
  split at hr
  ·rename_i hc4
   simp only [Option.some.injEq] at hr
   subst hr
   obtain ⟨ph,eh,lh,sh⟩:=intO hhi es.length Hi hH
   obtain ⟨pl,rfl,ll,sl⟩:=intO hlo 0 L hL
   rw [eh] at fin ⊢
   have hb:=ar9 (P:=P) (w:=w) true es.length c pl ph none (by simp) (by omega) (by omega) (by simp only [loI] at *;omega) (by simp only [loI];omega)
   rw [ll,lh] at hb
   refine ⟨_,fin L.toNat Hi.toNat c (by omega) (by omega) (by omega) (by omega) hb,bu4 hx _ _ _ _ (by omega) (by omega) (by omega) (by omega) hk,?_⟩
   cases hi' with
   | some _=>trivial
   | none=>
    simp only [au1,Option.some.injEq] at hH
    subst hH
    cases tag with
    | no=>trivial
    | full=>
     intro a n c' h
     injection h with h1 h2 h3
     have:=htag _ _ _ rfl
     omega
    | tok g=>
     refine ⟨htag.1,fun hg k' es' b' o' n' c' hv' hx'=>?_⟩
     injection hv' with e1 e2 e3
     subst e1
     subst e2
     obtain rfl:=hk rfl
     cases hx with
     | list _ _ b o c f n hn hc2 hkk hgg f1 f2 sp hsp=>
     injection hx' with h1 h2 h3
     by_cases ec:c=L.toNat
     ·left;omega
     ·obtain rfl:sp=none:=by rcases hsp with h | h;exact h;omega
      rw [if_neg ec] at h1
      simp only [Option.map_some,Option.some.injEq] at h1
      rcases htag.2 hg _ _ _ _ _ _ rfl rfl with q | q
      ·left;omega
      ·right
       have hadd:(⟨b,o,none⟩:Addr).add (L.toNat*P.cellsOf e)=⟨b,o+L.toNat*P.cellsOf e,none⟩:=by
        simp only [Addr.add];split
        ·rename_i h0;rw [h0];rfl
        ·rfl
       rw [hadd] at h1
       injection h1 with g1 g2 g3
       subst g1;subst g2;subst h2;subst h3
       rw [q]
       have m1:o+L.toNat*P.cellsOf e+((es.length:Int).toNat-L.toNat)*P.cellsOf e=o+es.length*P.cellsOf e:=by
        rw [Nat.add_assoc,←Nat.add_mul];congr 2;omega
       have m2:o+L.toNat*P.cellsOf e+(c-L.toNat)*P.cellsOf e=o+c*P.cellsOf e:=by
        rw [Nat.add_assoc,←Nat.add_mul];congr 2;omega
       rw [m1,m2]
  ·simp at hr
theorem sloL_run (t e:TypeId)(ht:P.underlying t=some (.slice e))(i:TypeInfo)(hi:P.info? e=some i)(id off k n c:Nat)(lo hi' mx:Option V)(r:V×Tag)(hr:sloL id off k n c lo hi' mx=some r)
  (hk:k=P.cellsOf e) (x:Value) (hx:VRel (Mut mo own) own.rho w (.slo id off k n c) x) (l:List Nat) (g0:Nat) (lo' hi'' mx':Option Value)
  (hlo:OX (Mut mo own) own w lo lo') (hhi:OX (Mut mo own) own w hi' hi'') (hmx:OX (Mut mo own) own w mx mx'):
  ∃u,(Instr.sliceAt t x lo' hi'' mx').run P w=.ok u w/\VRel (Mut mo own) own.rho w r.1 u/\TRel own l g0 r.1 r.2 u:=by
 have hsz:=run_sizeOf hi w
 subst hk
 cases hx with
 | slo _ _ _ _ _ b q hb hn hc hC=>
 have fin:∀(L Hh m:Nat),(Instr.sliceBounds true n q lo' hi'' mx').run P w=.ok (L,Hh,m) w ->
   (Instr.sliceAt t (.slice (some ⟨b,off,none⟩) n q) lo' hi'' mx').run P w=.ok (.slice (if m=L then some ⟨b,off,none⟩ else (some (⟨b,off,none⟩:Addr)).map (·.add (L*P.cellsOf e))) (Hh-L) (m-L)) w:=by
  intro L Hh m hb
  unfold Instr.sliceAt
  refine (ab3 (run_underlying ht w)).trans ?_
  show (Instr.slice t (.slice _ n q) lo' hi'' mx').run P w=_
  unfold Instr.slice
  refine (ab3 (run_underlying ht w)).trans ?_
  refine (ab3 hb).trans ?_
  refine (ab3 hsz).trans ?_
  rfl
 cases mx with
 | some mv=>
  obtain ⟨mx'',rfl⟩:∃y,mx'=some y:=by cases mx' with | none=>exact hmx.elim | some y=>exact ⟨y,rfl⟩
  simp only [sloL] at hr
  obtain ⟨M,hM,hr1⟩:=Option.bind_eq_some_iff.1 hr
  obtain ⟨Hi,hH,hr2⟩:=Option.bind_eq_some_iff.1 hr1
  obtain ⟨L,hL,hr3⟩:=Option.bind_eq_some_iff.1 hr2
  clear hr hr1 hr2
  split at hr3
  ·rename_i hc4
   simp only [Option.some.injEq] at hr3
   subst hr3
   obtain ⟨rfl,rfl,rfl⟩:=hc4
   obtain ⟨hv,rfl,hHv⟩:=Option.bind_eq_some_iff.1 hH
   obtain ⟨pm,em,lm,sm⟩:=intO hmx q 0 hM
   obtain ⟨ph,rfl,lh,sh⟩:=intO hhi n 0 hHv
   obtain ⟨pl,rfl,ll,sl⟩:=intO hlo 0 0 hL
   rw [em] at fin ⊢
   have hb2:=ar9 (P:=P) (w:=w) true n q pl ph pm (fun _=>by rw [sh];rfl) (by omega) (by omega) (by omega) (by omega)
   rw [ll,lh,lm] at hb2
   refine ⟨_,fin 0 0 0 hb2,?_,?_⟩
   ·exact .list _ [] b off 0 (fun _ _=>undef) 0 rfl (Nat.le_refl _) (by simp) (by simp) (fun i e j x he=>by simp at he) (fun i e j x he=>by simp at he)
   ·intro a n' c' h
    injection h with h1 h2 h3
    omega
  ·simp at hr3
 | none=>
  obtain rfl:mx'=none:=by cases mx' with | none=>rfl | some y=>exact hmx.elim
  simp only [sloL] at hr
  obtain ⟨Hi,hH,hr⟩:=Option.bind_eq_some_iff.1 hr
  obtain ⟨L,hL,hr⟩:=Option.bind_eq_some_iff.1 hr
  split at hr
  ·rename_i hc4
   simp only [Option.some.injEq] at hr
   subst hr
   obtain ⟨ph,eh,lh,sh⟩:=intO hhi n Hi hH
   obtain ⟨pl,rfl,ll,sl⟩:=intO hlo 0 L hL
   rw [eh] at fin ⊢
   have hb2:=ar9 (P:=P) (w:=w) true n q pl ph none (by simp) (by omega) (by omega) (by simp only [loI] at *;omega) (by simp only [loI];omega)
   rw [ll,lh] at hb2
   refine ⟨_,fin L.toNat Hi.toNat q hb2,?_,trivial⟩
   have haddr:(if q=L.toNat then some (⟨b,off,none⟩:Addr) else (some (⟨b,off,none⟩:Addr)).map (·.add (L.toNat*P.cellsOf e)))=some ⟨b,off+L.toNat*P.cellsOf e,none⟩:=by
    by_cases hz:L=0
    ·subst hz
     simp [Addr.add]
    ·rw [if_neg (by omega)]
     simp only [Option.map_some,Addr.add]
     split
     ·rename_i h0;rw [h0];rfl
     ·rfl
   show VRel _ _ _ _ (.slice (if q=L.toNat then _ else _) _ _)
   rw [haddr]
   refine .slo id _ _ _ _ b _ hb (by omega) (by omega) ?_
   have:(q-L.toNat)*P.cellsOf e+L.toNat*P.cellsOf e=q*P.cellsOf e:=by rw [←Nat.add_mul];congr 1;omega
   omega
  ·simp at hr
end
end Go.Proofs.YtnpjififnhjbbaaDoor.E
namespace Go.Proofs.YtnpjififnhjbbaaDoor.E
open Go
section
variable {P:Program} {H:ae2} {mo:Nat->Nat->Prop} {acc:Own} {w0:World} {own:Own} {st:St} {a:Act} {w:World}
theorem under_info {t:TypeId}{d:TypeDesc}(h:P.underlying t=some d):∃i,P.info? t=some i:=by
 unfold Program.underlying at h
 cases hi:P.info? t with
 | none=>rw [hi] at h;simp at h
 | some i=>exact ⟨i,rfl⟩
theorem ba3 {t:TypeId}{d:TypeDesc}(h:P.underlying t=some d)(w:World):(sizeOf t).run P w=.ok (P.cellsOf t) w:=by
 obtain ⟨i,hi⟩:=under_info h
 exact run_sizeOf hi w
theorem br5 {t:TypeId}{cs:List V}{v:V}(h:au8 P t cs=some v):(∃d,P.underlying t=some d)/\((af4 P t=true/\ac5 cs=true/\v=.agg cs)∨(af4 P t=false/\cs=[v]/\v.good=true)):=by
 unfold au8 at h
 obtain ⟨h0,h⟩:=aa2 h
 refine ⟨Option.isSome_iff_exists.1 h0,?_⟩
 split at h
 ·rename_i h1
  obtain ⟨h2,h⟩:=aa2 h
  simp at h
  exact .inl ⟨h1,h2,h.symm⟩
 ·rename_i h1
  split at h
  ·obtain ⟨h2,h⟩:=aa2 h
   simp at h
   subst h
   exact .inr ⟨by simpa using h1,rfl,h2⟩
  ·simp at h
theorem part_run (t:TypeId)(cs:List V)(cs':Array Value)(off:Nat)(v:V)(hv:au8 P t ((cs.drop off).take (P.cellsOf t))=some v)(hs:cs'.size=cs.length)
  (h:∀(j:Nat) (x:V) (y:Value),cs[j]? =some x->cs'[j]? =some y->VRel (Mut mo own) own.rho w x y):∃u,(part t cs' off).run P w=.ok u w/\VRel (Mut mo own) own.rho w v u:=by
 obtain ⟨⟨d,hd⟩,hv⟩:=br5 hv
 unfold part
 rcases hv with ⟨h1,h2,rfl⟩ | ⟨h1,h2,h3⟩
 ·refine ⟨_,(ab3 (ax8 t d hd w)).trans (by rw [h1];refine (ab3 (ba3 hd w)).trans rfl),.agg _ _ ?_ h2 ?_⟩
  ·simp [hs];omega
  ·intro j x y hx hy
   rw [List.getElem?_take] at hx
   split at hx
   ·rw [List.getElem?_drop] at hx
    rw [Array.getElem?_extract] at hy
    split at hy
    ·exact h _ _ _ hx hy
    ·simp at hy
   ·simp at hx
 ·have hx:cs[off]? =some v:=by
   have:((cs.drop off).take (P.cellsOf t))[0]? =some v:=by rw [h2];rfl
   rw [List.getElem?_take] at this
   split at this
   ·simpa using this
   ·simp at this
  have hlt:off<cs'.size:=by rw [hs];exact (List.getElem?_eq_some_iff.1 hx).1
  have hy:cs'[off]? =some cs'[off]:=Array.getElem?_eq_getElem hlt
  exact ⟨_,(ab3 (ax8 t d hd w)).trans (by rw [h1];simp [hy]),h _ _ _ hx hy⟩
theorem an1 (b o n:Nat):(⟨b,o,none⟩:Addr).add n=⟨b,o+n,none⟩:=by
 unfold Addr.add
 split
 ·rename_i h;rw [h];rfl
 ·rfl
theorem bv3 {M:Nat->Nat->Prop}{ρ:Nat->Option (Nat×Nat)}{cs:List V}{p:Value}(n:Nat)(h:VRel M ρ w (.ref cs) p):∃b o,p=.pointer (some ⟨b,o,none⟩)/\VRel M ρ w (.ref (cs.drop n)) (.pointer (some ⟨b,o+n,none⟩)):=by
 cases h with
 | ref _ b o f hg h1 h2=>
  refine ⟨b,o,rfl,.ref _ b (o+n) (fun j=>f (n+j)) (az6 _ fun v hv=>bb9 _ hg v (List.mem_of_mem_drop hv)) ?_ ?_⟩
  ·intro j x hx
   rw [List.getElem?_drop] at hx
   have:=h1 _ _ hx
   rw [Nat.add_assoc]
   exact this
  ·intro j x hx
   rw [List.getElem?_drop] at hx
   exact h2 _ _ hx
theorem indexAddrV_run (t:TypeId)(x i v:V)(hv:av5 P t x i=some v)(x' i':Value)(hx:XRel (Mut mo own) own w x x')(hi:XRel (Mut mo own) own w i i'):
  ∃u,(Instr.indexAt t x' i').run P w=.ok u w/\XRel (Mut mo own) own w v u:=by
 unfold av5 at hv
 obtain ⟨n,hn,hq⟩:=Option.bind_eq_some_iff.1 hv
 obtain ⟨ki,rfl⟩:=aD9 hn hi
 clear hv hi hn
 unfold Instr.indexAt
 split at hq
 ·rename_i e id off k m c ht
  obtain ⟨h0,hv⟩:=aa2 hq
  simp at h0
  split at hv
  ·rename_i h1
   simp only [Option.some.injEq] at hv
   subst hv
   cases hx with
   | slo _ _ _ _ _ b q hb hm hc=>
   have hsz:=aq5 (P:=P) h0.2 w
   exact ⟨.pointer (some ⟨b,off+n.toNat*k,none⟩),by simp [asIntOf,run_underlying ht,h1.1,h1.2,hsz,an1,h0.1],XRel.of (.obj _ _ b hb)⟩
  ·simp at hv
 ·rename_i e nn k es ht
  obtain ⟨h0,hv⟩:=aa2 hq
  simp at h0
  split at hv
  ·rename_i h1
   obtain ⟨el,hel,rfl⟩:=Option.map_eq_some_iff.1 hv
   cases hx with
   | nillist=>simp at h1;omega
   | list _ _ b o c f m hm hc hk hg f1 f2 sp hsp=>
    subst hm
    obtain rfl:sp=none:=by rcases hsp with h | h;exact h;omega
    have hsz:=aq5 (P:=P) h0.2 w
    refine ⟨.pointer (some ⟨b,o+n.toNat*P.cellsOf e,none⟩),?_,XRel.of (.ref _ b _ (fun j=>f n.toNat j) (hg _ (List.mem_of_getElem? hel)) ?_ ?_)⟩
    ·simp [asIntOf,run_underlying ht,h1.1,h1.2,hsz,an1]
    ·intro j x hx
     have:=f1 _ _ _ _ hel hx
     rw [h0.1] at this
     exact this
    ·intro j x hx
     exact f2 _ _ _ _ hel hx
  ·simp at hv
 ·rename_i m e cs ht
  obtain ⟨h0,hv⟩:=aa2 hq
  simp at h0
  split at hv
  ·rename_i h1
   simp only [Option.some.injEq] at hv
   subst hv
   obtain ⟨b,o,rfl,h2⟩:=bv3 (n.toNat*P.cellsOf e) hx
   have hsz:=aq5 (P:=P) h0 w
   exact ⟨_,by simp [asIntOf,run_underlying ht,h1.1,h1.2,hsz,an1,Instr.sureAddr],XRel.of h2⟩
  ·simp at hv
 ·rename_i m e j p ht
  obtain ⟨h0,hv⟩:=aa2 hq
  simp at h0
  split at hv
  ·rename_i h1
   simp only [Option.some.injEq] at hv
   subst hv
   obtain ⟨b,q,h3,rfl⟩:=hx
   have hsz:=aq5 (P:=P) h0 w
   exact ⟨.pointer (some ⟨b,p+n.toNat*P.cellsOf e,none⟩),by simp [asIntOf,run_underlying ht,h1.1,h1.2,hsz,an1,Instr.sureAddr],b,q,h3,rfl⟩
  ·simp at hv
 ·rename_i m e j p ht
  obtain ⟨h0,hv⟩:=aa2 hq
  simp at h0
  split at hv
  ·rename_i h1
   simp only [Option.some.injEq] at hv
   subst hv
   cases hx with
   | obj _ _ b hb=>
   have hsz:=aq5 (P:=P) h0 w
   exact ⟨.pointer (some ⟨b,p+n.toNat*P.cellsOf e,none⟩),by simp [asIntOf,run_underlying ht,h1.1,h1.2,hsz,an1,Instr.sureAddr],XRel.of (.obj _ _ b hb)⟩
  ·simp at hv
 ·simp at hq
theorem indexV_run (t:TypeId)(x i v:V)(hv:aR9 P t x i=some v)(x' i':Value)(hx:XRel (Mut mo own) own w x x')(hi:XRel (Mut mo own) own w i i'):
  ∃u,(Instr.index t x' i').run P w=.ok u w/\VRel (Mut mo own) own.rho w v u:=by
 unfold aR9 at hv
 obtain ⟨n,hn,hq⟩:=Option.bind_eq_some_iff.1 hv
 obtain ⟨ki,rfl⟩:=aD9 hn hi
 clear hv hi hn
 unfold Instr.index
 split at hq
 ·rename_i m e cs ht
  obtain ⟨h0,hv⟩:=aa2 hq
  simp at h0
  split at hv
  ·rename_i h1
   cases hx with
   | agg _ cs' hs hg h=>
   obtain ⟨u,h2,h3⟩:=part_run (mo:=mo) (own:=own) (w:=w) e cs cs' (n.toNat*P.cellsOf e) v hv hs h
   have hsz:=aq5 (P:=P) h0 w
   exact ⟨u,by simp [asIntOf,run_underlying ht,h1.1,h1.2,hsz,h2],h3⟩
  ·simp at hv
 ·rename_i s ht
  split at hq
  ·rename_i h1
   simp only [Option.some.injEq] at hq
   subst hq
   cases hx
   have:s[n.toNat]? =some (s[n.toNat]'h1.2):=by simp [h1.2]
   exact ⟨_,by simp [asIntOf,run_underlying ht,h1.1,this],.int _ _⟩
  ·simp at hq
 ·simp at hq
theorem sliceS_run (t:TypeId)(ht:P.underlying t=some .string)(s:ByteArray)(lo hi v:Option V)(r:V)(hr:aZ9 s lo hi=some r)(lo' hi':Option Value)(hlo:OX (Mut mo own) own w lo lo')(hhi:OX (Mut mo own) own w hi hi'):
  ∃u,(Instr.sliceAt t (.string s) lo' hi' none).run P w=.ok u w/\VRel (Mut mo own) own.rho w r u:=by
 unfold aZ9 at hr
 obtain ⟨Hi,hH,hq⟩:=Option.bind_eq_some_iff.1 hr
 obtain ⟨L,hL,hq⟩:=Option.bind_eq_some_iff.1 hq
 split at hq
 ·rename_i h1
  simp only [Option.some.injEq] at hq
  subst hq
  obtain ⟨ph,rfl,lh,sh⟩:=intO hhi s.size Hi hH
  obtain ⟨pl,rfl,ll,sl⟩:=intO hlo 0 L hL
  have hb:=ar9 (P:=P) (w:=w) false s.size s.size pl ph none (by simp) (by omega) (by omega) (by rw [lh];simp only [loI];omega) (by simp only [loI];omega)
  rw [ll,lh] at hb
  refine ⟨.string (s.extract L.toNat Hi.toNat),?_,.str _⟩
  unfold Instr.sliceAt
  refine (ab3 (run_underlying ht w)).trans ?_
  show (Instr.slice t (.string s) _ _ none).run P w=_
  unfold Instr.slice
  refine (ab3 (run_underlying ht w)).trans ?_
  refine (ab3 hb).trans ?_
  rfl
 ·simp at hq
theorem aY4 {s f o:Nat}{t:TypeId}(h:aw4 P s f=some (o,t)):∃fs x,P.underlying s=some (.struct fs)/\fs[f]? =some x/\x.offset=o/\x.type=t:=by
 unfold aw4 at h
 split at h
 ·rename_i fs hfs
  obtain ⟨x,hx,h⟩:=Option.map_eq_some_iff.1 h
  injection h with h1 h2
  exact ⟨fs,x,hfs,hx,h1,h2⟩
 ·simp at h
theorem fieldAt_run {s f o:Nat}{t:TypeId}(h:aw4 P s f=some (o,t))(h0:P.cellsOf t≠0)(b p:Nat):(Instr.fieldAt s (.pointer (some ⟨b,p,none⟩)) f).run P w=.ok (.pointer (some ⟨b,p+o,none⟩)) w:=by
 obtain ⟨fs,x,h1,h2,rfl,rfl⟩:=aY4 h
 have hsz:=aq5 (P:=P) h0 w
 unfold Instr.fieldAt
 simp [run_underlying h1,h2,Instr.sureAddr,fieldPlace,hsz,h0,an1]
theorem field_run {s f o:Nat}{t:TypeId}(h:aw4 P s f=some (o,t))(cs:List V)(v:V)(hv:au8 P t ((cs.drop o).take (P.cellsOf t))=some v)(x':Value)(hx:XRel (Mut mo own) own w (.agg cs) x'):
  ∃u,(Instr.field s x' f).run P w=.ok u w/\VRel (Mut mo own) own.rho w v u:=by
 obtain ⟨fs,x,h1,h2,rfl,rfl⟩:=aY4 h
 cases hx with
 | agg _ cs' hs hg h=>
 obtain ⟨u,h3,h4⟩:=part_run (mo:=mo) (own:=own) (w:=w) x.type cs cs' x.offset v hv hs h
 exact ⟨u,by unfold Instr.field;simp [run_underlying h1,h2,asAgg,h3],h4⟩
end
end Go.Proofs.YtnpjififnhjbbaaDoor.E
