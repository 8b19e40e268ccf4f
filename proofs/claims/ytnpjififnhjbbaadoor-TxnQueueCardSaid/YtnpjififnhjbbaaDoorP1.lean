/- A plain model of a manager of transactions, and what the evaluation of lists, words and a transaction's own functions comes to. No condition beyond the lemmas' own. -/
import Derived.Test.YtnpjififnhjbbaaDoorLF0
import Derived.Test.YtnpjififnhjbbaaDoorLF1
import Derived.Test.YtnpjififnhjbbaaDoorLF2
import Derived.Test.YtnpjififnhjbbaaDoorLF3
import Derived.Test.YtnpjififnhjbbaaDoorLF4
import Derived.Test.YtnpjififnhjbbaaDoorLF5
import Derived.Test.YtnpjififnhjbbaaDoorLF6
import Derived.Test.YtnpjififnhjbbaaDoorLF7
import Derived.IntWalk
import Derived.Laws.Strings
set_option maxRecDepth 100000
namespace Go.Proofs.YtnpjififnhjbbaaDoor.E
open Go
abbrev By :=ByteArray
def hasS (s:By):List By->Bool
 | []=>false
 | x::r=>decide (s=x)||hasS s r
def delS (s:By)(l:List By):List By:=l.filter fun x=>!decide (s=x)
structure TX where
 b:Nat
 q:Nat
 res:List By
 wat:List By
 num:Int
 st:Int
 com:Bool
 mix:Bool
 haz:Bool
 dbt:List By
 que:List (Int×By)
 yes:List By
 rest:Option (List By)
 fgt:List By
 qt:List ((Int×By)×Int)
 lgd:Bool
def aG7 (n:Int):By:=⟨(Lib.decDigits n.toNat).toArray⟩
def by1 (l:List By):By:=⟨(Lib.join (l.map (·.data.toList)) (⟨#[32]⟩:By).data.toList).toArray⟩
def cmtB (n:Int)(l:List By):By:=(((⟨#[99,111,109,109,105,116,32]⟩:By)++aG7 n)++(⟨#[32]⟩:By))++by1 l
def endB (n:Int):By:=(⟨#[101,110,100,32]⟩:By)++aG7 n
def au2 (T:TX)(s:By):Bool:=hasS s T.yes||hasS s (T.rest.getD [])
def au7 (T:TX):TX:={T with st:=5,que:=(T.res.filter (au2 T)).map fun s=>(4,s)}
def ar5 (l:List By):Option (List By):=match l with | []=>none | l=>some l
def cmtT (T:TX):TX:={T with st:=4,lgd:=T.lgd||!T.yes.isEmpty,que:=T.que++T.yes.map fun s=>(3,s)}
def cmtL (T:TX):List By:=match T.yes with | []=>[] | _=>[cmtB T.num T.yes]
def aj1 (T:TX):TX:=match T.rest with
 | some _=>cmtT T
 | none=>match T.res with
  | []=>cmtT T
  | [a]=>{T with rest:=some [],que:=[(5,a)]}
  | l=>{T with rest:=some l,que:=T.que++l.map fun s=>(2,s)}
def au0 (T:TX):List By:=match T.rest with
 | some _=>cmtL T
 | none=>match T.res with
  | []=>cmtL T
  | _=>[]
def endT (T:TX):TX:=match T.fgt with
 | []=>{T with com:=T.st==4,st:=if T.st=4 then 6 else 7,que:=T.que++T.wat.map fun s=>(7,s)}
 | _=>{T with que:=T.que++(T.res.filter fun s=>hasS s T.fgt).map (fun s=>(6,s)),fgt:=[]}
def endL (T:TX):List By:=match T.fgt with
 | []=>if T.lgd=true/\T.dbt=[] then [endB T.num] else []
 | _=>[]
def setT :Nat->TX->TX
 | 0,T=>T
 | n+1,T=>match T.que with
  | []=>if T.st=3 then setT n (aj1 T) else if T.st=4∨T.st=5 then setT n (endT T) else T
  | _=>T
def setL :Nat->TX->List By
 | 0,_=>[]
 | n+1,T=>match T.que with
  | []=>if T.st=3 then au0 T++setL n (aj1 T) else if T.st=4∨T.st=5 then endL T++setL n (endT T) else []
  | _=>[]
def getQ (k:Int×By):List ((Int×By)×Int)->Int
 | []=>0
 | (j,n)::r=>if k=j then n else getQ k r
def putQ (k:Int×By)(n:Int):List ((Int×By)×Int)->List ((Int×By)×Int)
 | []=>[(k,n)]
 | (j,m)::r=>if k=j then (j,n)::r else (j,m)::putQ k n r
def silT (k:Int×By)(T:TX):TX:=
 let n:=getQ k T.qt+1
 if 20<=n then {T with qt:=putQ k n T.qt,dbt:=bif hasS k.2 T.dbt then T.dbt else T.dbt++[k.2]}
 else {T with qt:=putQ k n T.qt,que:=T.que++[k]}
def addF (k:Int×By)(a:Int)(T:TX):TX:=if 2<=a/\a<=4 then {T with fgt:=T.fgt++[k.2]} else T
def delR (k:Int×By)(T:TX):TX:={T with rest:=T.rest.map (delS k.2)}
def aj5 (k:Int×By)(a:Int)(T:TX):TX:=
 if k.1=1 then (if a=2 then au7 {T with rest:=ar5 T.res} else T)
 else if k.1=2 then (if a=1 then delR k {T with yes:=T.yes++[k.2]} else if a=2 then au7 (delR k T) else if a=4 then au7 T else delR k T)
 else if k.1=3∨k.1=4 then
  addF k a (if a=2∨a=3 then {T with mix:=true} else if a=4 then {T with haz:=true} else if a=5 then silT k T else T)
 else if k.1=5 then
  addF k a (if a<=0∨a=2 then {T with st:=5} else if a=3 then {T with st:=4,mix:=true} else if a=4∨a=5 then {T with st:=4,haz:=true} else {T with st:=4})
 else if k.1=6 then (if a=2 then silT k T else T)
 else T
def popT (T:TX):TX:={T with que:=T.que.tail}
def as5 (a:Int)(T:TX):TX:=match T.que with | []=>T | k::_=>setT 4 (aj5 k a (popT T))
def ax7 (a:Int)(T:TX):List By:=match T.que with | []=>[] | k::_=>setL 4 (aj5 k a (popT T))
inductive Rs where
 | stop (k:Int×By) (lines:List By)
 | over (com mix haz:Bool) (dbt:List By) (lines:List By)
def mgrQ (T:TX)(lg:List By):List Int->Rs
 | []=>match T.que with | []=>.over T.com T.mix T.haz T.dbt lg | k::_=>.stop k lg
 | a::r=>match T.que with | []=>.over T.com T.mix T.haz T.dbt lg | _::_=>mgrQ (as5 a T) (lg++ax7 a T) r
def newT (b q:Nat)(num:Int)(res wat:List By):TX:={b,q,res,wat,num,st:=1,com:=false,mix:=false,haz:=false,dbt:=[],que:=[],yes:=[],rest:=none,fgt:=[],qt:=[],lgd:=false}
def comT (T:TX):TX:=setT 4 {T with st:=3,que:=T.que++T.wat.map fun s=>(1,s)}
def comL (T:TX):List By:=setL 4 {T with st:=3,que:=T.que++T.wat.map fun s=>(1,s)}
def rolT (T:TX):TX:=setT 4 (au7 {T with rest:=ar5 T.res})
def rolL (T:TX):List By:=setL 4 (au7 {T with rest:=ar5 T.res})
structure En where
 com:Bool:=false
 mix:Bool:=false
 haz:Bool:=false
 dbt:List By:=[]
 unc:Bool:=false
def getG (s:By):List (By×Int)->Int
 | []=>0
 | (x,n)::r=>if s=x then n else getG s r
def putG (k:By)(n:Int):List (By×Int)->List (By×Int)
 | []=>[(k,n)]
 | (j,m)::r=>if k=j then (j,n)::r else (j,m)::putG k n r
abbrev Kq :=List Int->Rs
def askQ (lines:List By)(k:Int)(s:By)(f:Int->Kq):Kq
 | []=>.stop (k,s) lines
 | a::r=>f a r
def az0 (lines:List By)(k sil:Int)(K:List (By×Int)->List By->Kq):List Int->List (By×Nat)->List (By×Int)->List By->Rs
 | r,[],got,dbt=>K got dbt r
 | [],(s,_)::_,_,_=>.stop (k,s) lines
 | a::r,(s,c)::qs,got,dbt=>
  if a≠sil then az0 lines k sil K r qs (putG s a got) dbt
  else if c+1<20 then az0 lines k sil K r (qs++[(s,c+1)]) got dbt
  else az0 lines k sil K r qs got (bif hasS s dbt then dbt else dbt++[s])
def outQ (names:List By)(got:List (By×Int)):List By:=names.filter fun s=>decide (2<=getG s got/\getG s got<=4)
def aN9 (lines:List By)(k:Int)(names:List By)(E:En)(K:En->Kq)(r:List Int):Rs:=
 az0 lines k 5 (fun got dbt r=>az0 lines 6 2 (fun _ dbt r=>K {E with mix:=E.mix||names.any (fun s=>getG s got==2||getG s got==3),haz:=E.haz||names.any (fun s=>getG s got==4),dbt} r) r ((outQ names got).map fun s=>(s,0)) [] dbt) r (names.map fun s=>(s,0)) [] E.dbt
def aftQ (lines:List By)(wat:List By)(E:En):Kq:=match wat with
 | []=>fun _=>.over E.com E.mix E.haz E.dbt lines
 | s::w=>askQ lines 7 s fun _=>aftQ lines w E
def oneQ (wat:List By)(s:By):Kq:=askQ [] 5 s fun a=>
 let E:En:={com:=decide (¬(a<=0∨a=2)),mix:=a==3,haz:=a==4||a==5}
 if 2<=a/\a<=4 then fun r=>az0 [] 6 2 (fun _ dbt r=>aftQ [] wat {E with dbt} r) r [(s,0)] [] [] else aftQ [] wat E
def cmtQ (num:Int)(wat yes:List By):Kq:=aN9 [cmtB num yes] 3 yes {com:=true} fun E=>aftQ (match E.dbt with | []=>[cmtB num yes,endB num] | _=>[cmtB num yes]) wat E
def prpQ (num:Int)(wat:List By):List By->List By->Kq
 | [],[]=>aftQ [] wat {com:=true}
 | [],yes=>cmtQ num wat yes
 | s::names,yes=>askQ [] 2 s fun a=>
  if a=1 then prpQ num wat names (yes++[s])
  else if a=2 then aN9 [] 4 (yes++names) {} (aftQ [] wat)
  else if a=4 then aN9 [] 4 (yes++s::names) {} (aftQ [] wat)
  else prpQ num wat names yes
def bakQ (wat names:List By):Kq:=aN9 [] 4 names {} (aftQ [] wat)
def rstQ (num:Int)(wat names:List By):Kq:=match names with | [s]=>oneQ wat s | l=>prpQ num wat l []
def befQ (num:Int)(names wat:List By):List By->Kq
 | []=>rstQ num wat names
 | s::w=>askQ [] 1 s fun a=>if a=2 then bakQ wat names else befQ num names wat w
def bC8 (num:Int)(commits:Bool)(names syncs:List By):Kq:=if commits then befQ num names syncs syncs else bakQ syncs names
end Go.Proofs.YtnpjififnhjbbaaDoor.E
set_option maxRecDepth 100000
namespace Go.Proofs.YtnpjififnhjbbaaDoor.E
open Go
theorem cP_B (b:Bool)(s:List O)(K KP:V->R):cP (some (.ret [.bool b] s)) K KP=K (.bool b):=rfl
theorem cP_I (k:IntKind)(n:Int)(s:List O)(K KP:V->R):cP (some (.ret [.int k n] s)) K KP=K (.int k n):=rfl
theorem cP_S (b:ByteArray)(s:List O)(K KP:V->R):cP (some (.ret [.str b] s)) K KP=K (.str b):=rfl
theorem aB_v (b:Bool)(K:Bool->R):aB (.bool b) K=K b:=rfl
theorem aI_v (n:Int)(K:Int->R):aI (.int .i64 n) K=K n:=rfl
theorem aS_v (n:ByteArray)(K:ByteArray->R):aS (.str n) K=K n:=rfl
theorem aC_v (v:V)(r:List V)(K:V->List V->R):aC (v::r) K=K v r:=rfl
theorem aN_v (K:R):aN [] K=K:=rfl
theorem aA_v (l:List V)(K:List V->R):aA (.agg l) K=K l:=rfl
theorem aT_v (l:List V)(K:List V->R):aT (.tup l) K=K l:=rfl
theorem aO_v (i o:Nat)(K:Nat->Nat->R):aO (.obj i o) K=K i o:=rfl
theorem retRv (vs:List V)(s:List O):retR vs s=some (.ret vs s):=rfl
theorem ck_t {α:Type}{b:Bool}(h:b=true)(x:Option α):ck b x=x:=by rw [h];rfl
theorem bc4 {α:Type}{b:Bool}(h:b=true)(x y:α):(bif b then x else y)=x:=by rw [h];rfl
theorem bz8 {α:Type}{b:Bool}(h:b=false)(x y:α):(bif b then x else y)=y:=by rw [h];rfl
theorem cS_v {v:V}{s:List O}{K KP:V->List O->R}{x:R}(h:x=some (.ret [v] s)):cS x K KP=K v s:=by subst h;rfl
theorem cT_v {v w:V}{s:List O}{K KP:V->List O->R}{x:R}(h:x=some (.ret [v,w] s)):cT x K KP=K (.tup [v,w]) s:=by subst h;rfl
theorem as3 {s:List O}{K KP:V->List O->R}{x:R}(h:x=some (.ret [] s)):as9 x K KP=K (.tup []) s:=by subst h;rfl
theorem cP_v {v:V}{s:List O}{K KP:V->R}{x:R}(h:x=some (.ret [v] s))(hn:aj2 v=true):cP x K KP=K v:=by
 subst h
 show ck (ac0 [v]) (aG1 1 [v] fun l=>K (one l))=_
 simp only [ac0,hn,Bool.and_true,ck,cond_true]
 rfl
noncomputable def fnQ (n:Nat)(g:Nat):Bool:=HH.ok g&&!HH.pure g&&Nat.beq (nres Tryd.prog g) n&&(HH.ext g).isNone
theorem bj0 {g:Nat}(hx:fnQ 1 g=true){a b args:List V}{s s':List O}{v:V}{K KP:V->List O->R}(hr:RZ.R g (a++args++b) s=some (.ret [v] s'))(ha:(a++args++b).all ad2=true):aD5 RZ.R (.func (.func g) a b) args s K KP=K v s':=by
 unfold fnQ at hx
 simp only [Bool.and_eq_true,Bool.not_eq_true'] at hx
 obtain ⟨⟨⟨h1,h2⟩,h3⟩,h4⟩:=hx
 have h3:=Nat.eq_of_beq_eq_true h3
 show aH3 Tryd.prog HH RZ.R (.func (.func g) a b) args s K KP=_
 unfold aH3 ay7
 cases he:HH.ext g with
 | some e=>rw [he] at h4;cases h4
 | none=>
  simp only [ck,show (!(HH.own g).headD false)=true from rfl,cond_true,h1,ha,h2,cond_false,hr,h3]
  rfl
theorem CALLF_0 {g:Nat}(hx:fnQ 0 g=true){a b args:List V}{s s':List O}{K KP:V->List O->R}(hr:RZ.R g (a++args++b) s=some (.ret [] s'))(ha:(a++args++b).all ad2=true):aD5 RZ.R (.func (.func g) a b) args s K KP=K (.tup []) s':=by
 unfold fnQ at hx
 simp only [Bool.and_eq_true,Bool.not_eq_true'] at hx
 obtain ⟨⟨⟨h1,h2⟩,h3⟩,h4⟩:=hx
 have h3:=Nat.eq_of_beq_eq_true h3
 show aH3 Tryd.prog HH RZ.R (.func (.func g) a b) args s K KP=_
 unfold aH3 ay7
 cases he:HH.ext g with
 | some e=>rw [he] at h4;cases h4
 | none=>
  simp only [ck,show (!(HH.own g).headD false)=true from rfl,cond_true,h1,ha,h2,cond_false,hr,h3]
  rfl
theorem CALLF_p {g:Nat}(hx:(HH.ok g&&HH.pure g&&Nat.beq (nres Tryd.prog g) 1&&(HH.ext g).isNone)=true){a b args:List V}{s s':List O}{v:V}{K KP:V->List O->R}(hr:RZ.R g (a++args++b) []=some (.ret [v] s'))(ha:(a++args++b).all ad2=true)(hn:ac0 (a++args++b)=true)(hv:aj2 v=true):aD5 RZ.R (.func (.func g) a b) args s K KP=K v s:=by
 simp only [Bool.and_eq_true] at hx
 obtain ⟨⟨⟨h1,h2⟩,h3⟩,h4⟩:=hx
 have h3:=Nat.eq_of_beq_eq_true h3
 show aH3 Tryd.prog HH RZ.R (.func (.func g) a b) args s K KP=_
 unfold aH3 ay7
 cases he:HH.ext g with
 | some e=>rw [he] at h4;cases h4
 | none=>
  simp only [ck,show (!(HH.own g).headD false)=true from rfl,cond_true,h1,ha,h2,hn,hr,h3]
  show ck (ac0 [v]) (aG1 1 [v] fun l=>K (one l) s)=_
  simp only [ac0,hv,Bool.and_true,ck,cond_true]
  rfl
theorem w6_1 {i:Nat}(h:i<9223372036854775807):w6 ((i:Int)+1)=((i+1:Nat):Int):=by
 show IntKind.i64.wrap ((i:Int)+1)=_
 rw [IntWalk.i64_in _ (by omega)];omega
theorem bs5 {n:Int}(h:-9223372036854775808<=n/\n<=9223372036854775807):w6 n=n:=IntWalk.i64_in _ h
theorem strB (a b:ByteArray):(a.toList==b.toList)=decide (a=b):=by
 rw [Bool.eq_iff_iff,beq_iff_eq,decide_eq_true_eq,ByteArray.toList_eq,ByteArray.toList_eq]
 constructor
 ·intro h
  cases a;cases b
  congr
  exact Array.ext' h
 ·rintro rfl;rfl
theorem getL {α:Type}{l:List α}{i:Nat}(h:i<l.length):∃c,l[i]? =some c:=⟨l[i],by simp [h]⟩
theorem ah8 {i n:Nat}(h:i<n):decide ((i:Int)<(n:Int))=true:=by simp;omega
theorem ag2 (n:Nat):decide ((n:Int)<(n:Int))=false:=by simp
theorem am8 {α:Type}{l:List α}{i:Nat}{x:α}(h:l[i]? =some x):l.drop i=x::l.drop (i+1):=by
 have hi:i<l.length:=(List.getElem?_eq_some_iff.1 h).1
 rw [List.drop_eq_getElem_cons hi]
 congr 1
 exact (List.getElem?_eq_some_iff.1 h).2
theorem aB6 {α:Type}{l:List α}{i:Nat}{x:α}(h:l[i]? =some x):l.take (i+1)=l.take i++[x]:=by
 rw [List.take_add_one,h];rfl
def aa1 (l:List ByteArray):List V:=l.map V.str
theorem ab9 (l:List ByteArray):(aa1 l).length=l.length:=List.length_map _
theorem aK6 {l:List V}{i:Nat}{v:V}(h:l[i]? =some v)(K:V->R):idxK l (i:Int) K=K v:=by
 unfold idxK
 have hi:i<l.length:=(List.getElem?_eq_some_iff.1 h).1
 rw [if_pos (by omega),show ((i:Int)).toNat=i from rfl,h]
theorem aj3 {l:List ByteArray}{i:Nat}{x:ByteArray}(h:l[i]? =some x)(K:V->R):idxK (aa1 l) (i:Int) K=K (.str x):=aK6 (by unfold aa1;rw [List.getElem?_map,h];rfl) K
theorem ag7 :∀l:List ByteArray,ac0 (aa1 l)=true
 | []=>rfl
 | _::r=>ag7 r
theorem aq3 (s:ByteArray):∀l,hasS s l=true↔s∈l
 | []=>by simp [hasS]
 | x::r=>by simp [hasS,aq3 s r]
def isL (k:Nat)(es:List V)(v:V):Prop:=(∃nn,v=.list nn k es/\(es≠[]->nn=true))∨(es=[]/\∃k',v=.list false k' [])
theorem isL.aL {k:Nat}{es:List V}{v:V}(h:isL k es v):∃nn,(es≠[]->nn=true)/\∀K,aL k v K=K nn es:=by
 rcases h with ⟨nn,rfl,h⟩ | ⟨rfl,k',rfl⟩
 ·exact ⟨nn,h,fun K=>by show aw7 k (.list nn k es) K=_;unfold aw7;simp only [if_true]⟩
 ·refine ⟨false,fun h=>absurd rfl h,fun K=>?_⟩
  show aw7 k (.list false k' []) K=_
  unfold aw7
  simp only
  by_cases h:k'=k
  ·rw [if_pos h]
  ·rw [if_neg h]
theorem isL.good {k:Nat}{es:List V}{v:V}(h:isL k es v):v.good=true:=by
 rcases h with ⟨nn,rfl,_⟩ | ⟨rfl,k',rfl⟩<;>rfl
theorem isL.ad2 {k:Nat}{es:List V}{v:V}(h:isL k es v):ad2 v=true:=by
 rcases h with ⟨nn,rfl,_⟩ | ⟨rfl,k',rfl⟩<;>rfl
theorem isL.aj2 {k:Nat}{es:List V}{v:V}(h:isL k es v)(hn:ac0 es=true):aj2 v=true:=by
 rcases h with ⟨nn,rfl,_⟩ | ⟨rfl,k',rfl⟩
 ·exact hn
 ·rfl
theorem aq7 {k k':Nat}:isL k [] (.list false k' []):=.inr ⟨rfl,k',rfl⟩
theorem aV8 {k:Nat}{es:List V}:isL k es (.list true k es):=.inl ⟨true,rfl,fun _=>rfl⟩
theorem aG8 {k:Nat}{es:List V}{x:V}{nn:Bool}:isL k (es++[x]) (.list (nn||!([x]:List V).isEmpty) k (es++[x])):=.inl ⟨_,rfl,fun _=>by cases nn<;>rfl⟩
def GL {α:Type}(f:α->V)(s:List O)(v:V)(l:List α):Prop:=isL 1 (l.map f) v∨∃id c cs,v=.slo id 0 1 l.length c/\s[id]? =some (.box cs)/\l.length<=c/\l.length<=cs.length/\∀(j:Nat) (x:α),l[j]? =some x->(cs[j]?).map (·.1)=some (f x)
abbrev SL :=GL V.str
theorem GL.good {α:Type}{f:α->V}{s:List O}{v:V}{l:List α}(h:GL f s v l):v.good=true:=by
 rcases h with h | ⟨id,c,cs,rfl,_⟩
 ·exact h.good
 ·rfl
theorem GL.ad2 {α:Type}{f:α->V}{s:List O}{v:V}{l:List α}(h:GL f s v l):ad2 v=true:=by
 rcases h with h | ⟨id,c,cs,rfl,_⟩
 ·exact h.ad2
 ·rfl
theorem GL.ln {α:Type}{f:α->V}{s:List O}{v:V}{l:List α}(h:GL f s v l):lnV v=some (l.length:Int):=by
 rcases h with (⟨nn,rfl,_⟩ | ⟨h,k',rfl⟩) | ⟨id,c,cs,rfl,_⟩
 ·show some (((l.map f).length:Nat):Int)=_;rw [List.length_map]
 ·rw [List.map_eq_nil_iff] at h;subst h;rfl
 ·rfl
theorem taken1 {α:Type}{l:List α}{i:Nat}{x:α}(h:l[i]? =some x):taken 1 (l.drop i)=some [x]:=by
 rw [am8 h];rfl
theorem GL.ix {α:Type}{f:α->V}(hf:∀x,(f x).good=true/\(f x).cells=[f x]){s:List O}{v:V}{l:List α}{i:Nat}{x:α}(h:GL f s v l)(hi:l[i]? =some x):∃p,ixV 1 v (i:Int)=some p/\az2 p=true/\∀K,ld1 s p K=K (f x):=by
 have hil:=(List.getElem?_eq_some_iff.1 hi).1
 have hg:∀K:V->R,ay6 [f x] (K (f x))=K (f x):=fun K=>by unfold ay6;rw [show ac5 [f x]=true from by simp [ac5,(hf x).1]];rfl
 rcases h with (⟨nn,rfl,_⟩ | ⟨h,k',rfl⟩) | ⟨id,c,cs,rfl,h1,h2,h3,h4⟩
 ·refine ⟨.ref [f x],?_,rfl,fun K=>?_⟩
  ·unfold ixV
   simp only
   rw [List.length_map,if_pos ⟨trivial,by omega,by omega⟩,show ((i:Int)).toNat=i from rfl,List.getElem?_map,hi]
   show some (V.ref (f x).cells)=_
   rw [(hf x).2]
  ·exact hg K
 ·rw [List.map_eq_nil_iff] at h;subst h;cases hil
 ·refine ⟨.obj id (0+((i:Int)).toNat*1),?_,rfl,fun K=>?_⟩
  ·unfold ixV
   simp only
   rw [if_pos ⟨trivial,by omega,by omega⟩]
  ·have h5:=h4 i x hi
   obtain ⟨c0,h6,h7⟩:=Option.map_eq_some_iff.1 h5
   unfold ld1 ldV
   rw [show 0+((i:Int)).toNat*1=i from by show 0+i*1=i;omega]
   simp only [h1,taken1 h6,Option.map_some,List.map_cons,List.map_nil,h7]
   exact hg K
theorem bp3 :∀x:By,(V.str x).good=true/\(V.str x).cells=[V.str x]:=fun _=>⟨rfl,rfl⟩
theorem obj_f :∀x:Nat,(V.obj x 0).good=true/\(V.obj x 0).cells=[V.obj x 0]:=fun _=>⟨rfl,rfl⟩
theorem GL.set {α:Type}{f:α->V}{s s':List O}{v:V}{l:List α}(h:GL f s v l)(hs:∀id c,v=.slo id 0 1 l.length c->s'[id]? =s[id]?):GL f s' v l:=by
 rcases h with h | ⟨id,c,cs,rfl,h1,h2⟩
 ·exact .inl h
 ·exact .inr ⟨id,c,cs,rfl,by rw [hs id c rfl];exact h1,h2⟩
def idxS (s:ByteArray):List ByteArray->Nat->Option Nat
 | [],_=>none
 | x::r,i=>if s=x then some i else idxS s r (i+1)
theorem idxS_mem (s:ByteArray):∀(l:List ByteArray) (i:Nat),(idxS s l i).isSome=hasS s l
 | [],i=>rfl
 | x::r,i=>by
  simp only [idxS,hasS]
  by_cases h:s=x
  ·rw [if_pos h,decide_eq_true h];rfl
  ·rw [if_neg h,decide_eq_false h,idxS_mem s r];rfl
theorem br8 {v:V}{l:List ByteArray}{x:ByteArray}{s:List O}(hv:SL s v l)(hl:l.length<9223372036854775807):∀(k i:Nat),i+k=l.length->ad4.L0 RZ v x l.length i s=some (.ret [.int .i64 (match idxS x (l.drop i) i with | some j=>(j:Int) | none=>-1)] s)
 | 0,i,h=>by
  obtain rfl:i=l.length:=by omega
  apply ad4.ag4
  unfold ad4.L0b
  rw [ag2,List.drop_length]
  rfl
 | k+1,i,h=>by
  have ih:=br8 (x:=x) hv hl k (i+1) (by omega)
  obtain ⟨c,hc⟩:=getL (l:=l) (i:=i) (by omega)
  obtain ⟨p,h1,h2,h3⟩:=hv.ix bp3 hc
  apply ad4.ag4
  unfold ad4.L0b
  rw [ah8 (by omega),am8 hc]
  simp only [cond_true,h1,Option.bind_some,h2,ck,h3,aS_v,strB,w6_1 (show i<9223372036854775807 by omega),ih,idxS]
  by_cases h:x=c
  ·rw [if_pos h,decide_eq_true h];rfl
  ·rw [if_neg h,decide_eq_false h];rfl
theorem at4 {v:V}{l:List ByteArray}{x:ByteArray}{s:List O}(hv:SL s v l)(hl:l.length<9223372036854775807):RZ.R ac2 [v,.str x] s=some (.ret [.bool (hasS x l)] s):=by
 apply am3.b_of
 unfold am3.b
 have hi:RZ.R an0 [v,.str x] s=some (.ret [.int .i64 (match idxS x l 0 with | some j=>(j:Int) | none=>-1)] s):=by
  apply ad4.b_of
  unfold ad4.b
  rw [hv.ln]
  exact br8 hv hl l.length 0 (by omega)
 rw [ck_t (by simp [hv.ad2];rfl),cS_v hi,aI_v,retRv,←idxS_mem x l 0]
 cases idxS x l 0 with
 | none=>rfl
 | some j=>simp
def aF6 (l:List By):O:=.box ((aa1 l).map fun c=>(c,false))
theorem bw3 :∀l:List By,((aa1 l).flatMap V.cells).map (fun c=>(c,nilB c))=(aa1 l).map fun c=>(c,false)
 | []=>rfl
 | x::l=>by
  show (V.str x,nilB (V.str x))::((aa1 l).flatMap V.cells).map (fun c=>(c,nilB c))=(V.str x,false)::_
  rw [bw3 l];rfl
theorem aT1 (s:List O)(o:O):(s++[o])[s.length]? =some o:=by simp
theorem SL_new {s:List O}{l:List By}:SL (s++[aF6 l]) (.slo s.length 0 1 l.length l.length) l:=by
 refine .inr ⟨s.length,l.length,_,rfl,aT1 _ _,Nat.le_refl _,by simp [aa1],fun j x h=>?_⟩
 simp [aa1,h]
theorem aK0 {v:V}{l:List By}{s:List O}(hv:isL 1 (aa1 l) v)(hl:l.length<=1000000):(l≠[]->RZ.R ac3 [v] s=some (.ret [.slo s.length 0 1 l.length l.length] (s++[aF6 l])))/\(l=[]->∃v',isL 1 [] v'/\(nilS v'=nilS v)/\RZ.R ac3 [v] s=some (.ret [v'] s)):=by
 have e2:(srcS (inS s) 1 v)=some (aa1 l):=by
  rcases hv with ⟨nn,rfl,_⟩ | ⟨h,k',rfl⟩
  ·show ck (1==1||(aa1 l).isEmpty) (some (aa1 l))=_;rfl
  ·rw [h];show ck (k'==1||true) (some [])=_;rw [Bool.or_true];rfl
 constructor
 ·intro hne
  apply ae7.b_of
  unfold ae7.b
  have e1:nilS v=some false:=by
   rcases hv with ⟨nn,rfl,h⟩ | ⟨h,k',rfl⟩
   ·rw [h (by unfold aa1;simpa using hne)];rfl
   ·exact absurd (by unfold aa1 at h;simpa using h) hne
  rw [e1]
  simp only [Option.bind_some,cond_false]
  unfold apS
  rw [e2]
  simp only [Option.bind_some,Bool.not_true,Bool.false_or,ck,cond_true]
  cases l with
  | nil=>exact absurd rfl hne
  | cons x l=>
   have hb:(Nat.ble ((aa1 (x::l)).length*16) 140737488355328&&Nat.ble (aa1 (x::l)).length 140737488355328)=true:=by
    simp only [ab9,Bool.and_eq_true,Nat.ble_eq]
    omega
   show ((bif (Nat.ble ((aa1 (x::l)).length*16) 140737488355328&&Nat.ble (aa1 (x::l)).length 140737488355328) then some (V.slo s.length 0 1 (aa1 (x::l)).length (aa1 (x::l)).length,s++[O.box (((aa1 (x::l)).flatMap V.cells).map fun c=>(c,nilB c))]) else none).bind fun q3=>retK [q3.1] q3.2)=_
   rw [hb,bw3,ab9]
   rfl
 ·rintro rfl
  rcases hv with ⟨nn,rfl,h⟩ | ⟨h,k',rfl⟩
  ·cases nn with
   | false=>exact ⟨.list false 0 [],aq7,rfl,ae7.b_of _ _ rfl⟩
   | true=>exact ⟨.list true 1 [],aV8,rfl,ae7.b_of _ _ rfl⟩
  ·exact ⟨.list false 0 [],aq7,rfl,ae7.b_of _ _ rfl⟩
end Go.Proofs.YtnpjififnhjbbaaDoor.E
set_option maxRecDepth 100000
namespace Go.Proofs.YtnpjififnhjbbaaDoor.E
open Go
def idxP {α:Type}(p:α->Bool):List α->Nat->Option Nat
 | [],_=>none
 | x::r,i=>if p x=true then some i else idxP p r (i+1)
theorem bb6 {α:Type}{p:α->Bool}:∀{l:List α} {i:Nat},idxP p l i=none->l.filter (fun x=>!p x)=l
 | [],_,_=>rfl
 | x::r,i,h=>by
  unfold idxP at h
  by_cases hp:p x=true
  ·rw [if_pos hp] at h;cases h
  ·rw [if_neg hp] at h
   have hp:p x=false:=by simpa using hp
   rw [List.filter_cons,hp,bb6 h];rfl
theorem bb5 {α:Type}{p:α->Bool}:∀{l:List α} {i j:Nat},idxP p l i=some j->∃d,j=i+d/\d<l.length/\(l.take d).filter (fun x=>!p x)=l.take d/\∃x,l[d]? =some x/\p x=true
 | [],_,_,h=>by cases h
 | x::r,i,j,h=>by
  unfold idxP at h
  by_cases hp:p x=true
  ·rw [if_pos hp] at h;injection h with h;exact ⟨0,h.symm,by simp,rfl,x,rfl,hp⟩
  ·rw [if_neg hp] at h
   have hp:p x=false:=by simpa using hp
   obtain ⟨d,h1,h2,h3,y,h4,h5⟩:=bb5 h
   exact ⟨d+1,by omega,by simp;omega,by rw [List.take_succ_cons,List.filter_cons,hp,h3];rfl,y,by simpa using h4,h5⟩
structure Mid {α:Type}(f:α->V)(p:α->Bool)(l:List α)(cs:List (V×Bool))(j:Nat):Prop where
 len:l.length<=cs.length
 head:∀(t:Nat) (x:α),((l.take j).filter fun x=>!p x)[t]? =some x->(cs[t]?).map (·.1)=some (f x)
 rest:∀(t:Nat) (x:α),j<=t->l[t]? =some x->(cs[t]?).map (·.1)=some (f x)
theorem by9 {α:Type}(p:α->Bool)(l:List α)(j:Nat):((l.take j).filter fun x=>!p x).length<=j:=Nat.le_trans (List.length_filter_le _ _) (by simp;omega)
theorem Mid.skip {α:Type}{f:α->V}{p:α->Bool}{l:List α}{cs:List (V×Bool)}{j:Nat}{x:α}(h:Mid f p l cs j)(hx:l[j]? =some x)(hp:p x=true):Mid f p l cs (j+1):=by
 refine ⟨h.len,?_,fun t y ht hy=>h.rest t y (by omega) hy⟩
 rw [aB6 hx,List.filter_append,List.filter_cons,hp]
 simpa using h.head
theorem Mid.keep {α:Type}{f:α->V}{p:α->Bool}{l:List α}{cs:List (V×Bool)}{j:Nat}{x:α}{b:Bool}(h:Mid f p l cs j)(hx:l[j]? =some x)(hp:p x=false):Mid f p l (ae3 cs ((l.take j).filter fun x=>!p x).length [(f x,b)]) (j+1)/\((l.take (j+1)).filter fun x=>!p x).length=((l.take j).filter fun x=>!p x).length+1:=by
 have hj:=(List.getElem?_eq_some_iff.1 hx).1
 have hle:=by9 p l j
 have hlen:=h.len
 have e:(l.take (j+1)).filter (fun x=>!p x)=(l.take j).filter (fun x=>!p x)++[x]:=by
  rw [aB6 hx,List.filter_append,List.filter_cons,hp];rfl
 have hget:∀t:Nat,(ae3 cs ((l.take j).filter fun x=>!p x).length [(f x,b)])[t]? =if t=((l.take j).filter fun x=>!p x).length then some (f x,b) else cs[t]? :=by
  intro t
  generalize hn:((l.take j).filter fun x=>!p x).length=n at *
  unfold ae3
  rw [List.append_assoc]
  by_cases h1:t<n
  ·rw [List.getElem?_append_left (by simp;omega),if_neg (by omega),List.getElem?_take,if_pos h1]
  ·rw [List.getElem?_append_right (by simp;omega)]
   have e1:(List.take n cs).length=n:=by simp;omega
   rw [e1]
   by_cases h2:t=n
   ·rw [if_pos h2,h2];simp
   ·rw [if_neg h2]
    obtain ⟨d,rfl⟩:∃d,t=n+1+d:=⟨t-(n+1),by omega⟩
    rw [show n+1+d-n=d+1 from by omega,List.cons_append,List.getElem?_cons_succ,List.nil_append,List.getElem?_drop]
    rfl
 refine ⟨⟨?_,fun t y hy=>?_,fun t y ht hy=>?_⟩,by rw [e];simp⟩
 ·unfold ae3;simp;omega
 ·rw [hget]
  rw [e] at hy
  split
  ·rename_i ht
   rw [ht,List.getElem?_append_right (Nat.le_refl _)] at hy
   simp at hy
   rw [←hy];rfl
  ·rename_i ht
   refine h.head t y ?_
   by_cases h1:t<((l.take j).filter fun x=>!p x).length
   ·rwa [List.getElem?_append_left h1] at hy
   ·rw [List.getElem?_append_right (by omega)] at hy
    rw [List.getElem?_eq_none (by simp;omega)] at hy
    cases hy
 ·rw [hget,if_neg (by omega)]
  exact h.rest t y (by omega) hy
theorem Mid.done {α:Type}{f:α->V}{p:α->Bool}{l:List α}{cs:List (V×Bool)}(h:Mid f p l cs l.length){s:List O}{id c:Nat}(hs:s[id]? =some (.box cs))(hc:l.length<=c)(z:List (V×Bool))(hz:((l.filter fun x=>!p x).length+z.length)<=cs.length):GL f (s.set id (.box (ae3 cs (l.filter fun x=>!p x).length z))) (.slo id 0 1 (l.filter fun x=>!p x).length c) (l.filter fun x=>!p x):=by
 have hle:(l.filter fun x=>!p x).length<=l.length:=List.length_filter_le _ _
 refine .inr ⟨id,c,_,rfl,List.getElem?_set_self (List.getElem?_eq_some_iff.1 hs).1,by omega,?_,fun t x ht=>?_⟩
 ·unfold ae3;simp;have:=h.len;omega
 ·have hh:=h.head t x (by rw [List.take_length];exact ht)
  have ht:=(List.getElem?_eq_some_iff.1 ht).1
  unfold ae3
  rw [List.append_assoc,List.getElem?_append_left (by simp;have:=h.len;omega),List.getElem?_take,if_pos ht]
  exact hh
theorem af6 {s:List O}{id off:Nat}{cs new:List (V×Bool)}(h:s[id]? =some (.box cs))(hl:off+new.length<=cs.length)(K:List O->R):wrO s id off new K=K (s.set id (.box (ae3 cs off new))):=by
 unfold wrO
 rw [h]
 simp only [Nat.ble_eq_true_of_le hl,cond_true]
theorem ak0 (s:List O)(id:Nat)(a b:O):(s.set id a).set id b=s.set id b:=by simp
theorem aD8 {cs z:List (V×Bool)}{n:Nat}(h:n+z.length<=cs.length):(ae3 cs n z).length=cs.length:=by unfold ae3;simp;omega
def fnS (w:V)(x:By):Prop:=(∀(s:List O) (y:By) (K KP:V->List O->R),aD5 RZ.R w [.str y] s K KP=K (.bool (decide (x=y))) s)/\ad2 w=true
theorem bB8 {v w:V}{x:By}{l:List By}{s:List O}(hw:fnS w x)(hv:SL s v l)(hl:l.length<9223372036854775807):∀(k i:Nat),i+k=l.length->ac9.L0 RZ v w l.length i s=some (.ret [.int .i64 (match idxP (fun y=>decide (x=y)) (l.drop i) i with | some j=>(j:Int) | none=>-1)] s)
 | 0,i,h=>by
  obtain rfl:i=l.length:=by omega
  apply ac9.ag4
  unfold ac9.L0b
  rw [ag2,List.drop_length]
  rfl
 | k+1,i,h=>by
  have ih:=bB8 hw hv hl k (i+1) (by omega)
  obtain ⟨c,hc⟩:=getL (l:=l) (i:=i) (by omega)
  obtain ⟨p,h1,h2,h3⟩:=hv.ix bp3 hc
  apply ac9.ag4
  unfold ac9.L0b
  rw [ah8 (by omega),am8 hc]
  simp only [cond_true,h1,Option.bind_some,h2,ck,h3,aS_v,hw.1,aB_v,w6_1 (show i<9223372036854775807 by omega),ih,idxP]
  by_cases h:x=c
  ·rw [if_pos (decide_eq_true h),decide_eq_true h];rfl
  ·rw [if_neg (by simp [h]),decide_eq_false h];rfl
theorem SIdx_is {v w:V}{x:By}{l:List By}{s:List O}(hw:fnS w x)(hv:SL s v l)(hl:l.length<9223372036854775807):RZ.R ak7 [v,w] s=some (.ret [.int .i64 (match idxP (fun y=>decide (x=y)) l 0 with | some j=>(j:Int) | none=>-1)] s):=by
 apply ac9.b_of
 unfold ac9.b
 rw [hv.ln]
 exact bB8 hw hv hl l.length 0 (by omega)
theorem CLS_9 {s:List O}{id off n c:Nat}{cs:List (V×Bool)}(hs:s[id]? =some (.box cs))(hl:off+n<=cs.length):∃z:List (V×Bool),z.length=n/\CLS 9 (.slo id off 1 n c) s=some (s.set id (.box (ae3 cs off z))):=by
 have hz:zeroV Tryd.prog 9=some (.str ⟨#[]⟩):=by kernel_rfl
 have hc:Tryd.prog.cellsOf 9=1:=by kernel_rfl
 refine ⟨((List.replicate n [V.str ⟨#[]⟩]).flatten.map fun c=>(c,nilB c)),by simp,?_⟩
 show clS Tryd.prog 9 _ s=_
 unfold clS
 rw [hz]
 simp only [Option.bind_some,hs,hc]
 rw [show (Nat.blt 0 1&&1==1&&(V.cells (.str ⟨#[]⟩)).length==1&&ac5 (V.cells (.str ⟨#[]⟩))&&Nat.ble (off+n*1) cs.length)=true from by
  rw [Nat.mul_one,Nat.ble_eq_true_of_le hl];rfl]
 rfl
theorem slV_from {id n i c:Nat}(h:i<=n)(hc:i<c∨i=0):slV 1 (.slo id 0 1 n c) (some (vI (i:Int))) none=some (.slo id i 1 (n-i) (c-i)):=by
 show (sloL id 0 1 n c (some (vI (i:Int))) none none).map (·.1)=_
 unfold sloL
 simp only [au1,ap8,Option.bind_some]
 rw [if_pos ⟨by omega,by omega,by omega,by omega⟩]
 show some (V.slo id (0+i*1) 1 (n-i) (c-i))=_
 rw [Nat.mul_one,Nat.zero_add]
theorem slV_to {id n i c:Nat}(h:i<=n):slV 1 (.slo id 0 1 n c) none (some (vI (i:Int)))=some (.slo id 0 1 i c):=by
 show (sloL id 0 1 n c none (some (vI (i:Int))) none).map (·.1)=_
 unfold sloL
 simp only [au1,ap8,Option.bind_some]
 rw [if_pos ⟨Int.le_refl _,Int.natCast_nonneg _,Int.ofNat_le.2 h,.inr trivial⟩]
 rfl
theorem bd4 {w:V}{x:By}{l:List By}{id c:Nat}(hw:fnS w x)(hl:l.length<9223372036854775807)(hc:l.length<=c):∀(k j:Nat),j+k=l.length->∀(s:List O) (cs:List (V×Bool)),s[id]? =some (.box cs)->Mid V.str (fun y=>decide (x=y)) l cs j->(∃t<j,∃y,l[t]? =some y/\x=y) ->
  ∃cs',cs'.length=cs.length/\ab1.L0 RZ (.slo id 0 1 l.length c) w (((l.take j).filter fun y=>!decide (x=y)).length:Nat) j s=some (.ret [.slo id 0 1 (delS x l).length c] (s.set id (.box cs')))/\SL (s.set id (.box cs')) (.slo id 0 1 (delS x l).length c) (delS x l)
 | 0,j,h,s,cs,hs,hm,⟨t,ht,y,hy,hxy⟩=>by
  obtain rfl:j=l.length:=by omega
  have hlen:=hm.len
  have hlt:(delS x l).length<l.length:=by
   unfold delS
   refine Nat.lt_of_le_of_ne (List.length_filter_le _ _) fun e=>?_
   rw [List.length_filter_eq_length_iff] at e
   have:=e y (List.mem_of_getElem? hy)
   rw [decide_eq_true hxy] at this;cases this
  obtain ⟨z,hz,hcl⟩:=CLS_9 (s:=s) (id:=id) (off:=(delS x l).length) (n:=l.length-(delS x l).length) (c:=c-(delS x l).length) hs (by omega)
  refine ⟨ae3 cs (delS x l).length z,aD8 (by omega),?_,hm.done hs hc z (show (delS x l).length+z.length<=cs.length by omega)⟩
  apply ab1.ag4
  unfold ab1.L0b
  rw [List.take_length]
  rw [show lnV (.slo id 0 1 l.length c)=some ((l.length:Nat):Int) from rfl,Option.bind_some,ag2]
  show (bif false then _ else (slV 1 _ (some (vI (((delS x l).length:Nat):Int))) none).bind _)=_
  rw [cond_false,slV_from (by omega) (.inl (by omega)),Option.bind_some,hcl,Option.bind_some]
  show (slV 1 _ none (some (vI (((delS x l).length:Nat):Int)))).bind _=_
  rw [slV_to (by omega),Option.bind_some]
  rfl
 | k+1,j,h,s,cs,hs,hm,hex=>by
  obtain ⟨y,hy⟩:=getL (l:=l) (i:=j) (by omega)
  have hj:=(List.getElem?_eq_some_iff.1 hy).1
  have hlen:=hm.len
  have hfl:=by9 (fun y=>decide (x=y)) l j
  have hv:SL s (.slo id 0 1 l.length c) l->True:=fun _=>trivial
  have hcs:=hm.rest j y (Nat.le_refl _) hy
  obtain ⟨c0,h6,h7⟩:=Option.map_eq_some_iff.1 hcs
  have hix:ixV 1 (.slo id 0 1 l.length c) (j:Int)=some (.obj id j):=by
   unfold ixV
   simp only
   rw [if_pos ⟨trivial,by omega,by omega⟩]
   show some (V.obj id (0+j*1))=_
   rw [Nat.mul_one,Nat.zero_add]
  have hix2:ixV 1 (.slo id 0 1 l.length c) ((((l.take j).filter fun y=>!decide (x=y)).length:Nat):Int)=some (.obj id ((l.take j).filter fun y=>!decide (x=y)).length):=by
   unfold ixV
   simp only
   rw [if_pos ⟨trivial,by omega,by omega⟩]
   show some (V.obj id (0+_*1))=_
   rw [Nat.mul_one,Nat.zero_add];rfl
  have hld:∀K,ld1 s (.obj id j) K=K (V.str y):=by
   intro K
   unfold ld1 ldV
   simp only [hs,taken1 h6,Option.map_some,List.map_cons,List.map_nil,h7]
   rfl
  have J1:∀(i':Nat) (s':List O) (o:Out),ab1.L0 RZ (.slo id 0 1 l.length c) w i' ((j+1:Nat):Int) s'=some o->ab1.J1 RZ (.slo id 0 1 l.length c) w i' j s'=some o:=by
   intro i' s' o h
   apply ab1.ak6
   unfold ab1.J1b
   rw [w6_1 (by omega)];exact h
  by_cases hxy:x=y
  ·obtain ⟨cs',g1,g2,g3⟩:=bd4 hw hl hc k (j+1) (by omega) s cs hs (hm.skip hy (decide_eq_true hxy)) ⟨j,by omega,y,hy,hxy⟩
   refine ⟨cs',g1,?_,g3⟩
   rw [aB6 hy,List.filter_append,List.filter_cons,decide_eq_true hxy,show ([]:List By).filter _=[] from rfl] at g2
   simp only [Bool.not_true,Bool.false_eq_true,if_false,List.append_nil] at g2
   apply ab1.ag4
   unfold ab1.L0b
   rw [show lnV (.slo id 0 1 l.length c)=some ((l.length:Nat):Int) from rfl,Option.bind_some,ah8 (by omega)]
   simp only [cond_true,hix,Option.bind_some,show az2 (.obj id j)=true from rfl,ck,hld,aS_v,hw.1,aB_v,decide_eq_true hxy,Bool.not_true,cond_false]
   exact J1 _ _ _ g2
  ·obtain ⟨hm',hl'⟩:=hm.keep (b:=false) hy (decide_eq_false hxy)
   have hs':(s.set id (.box (ae3 cs ((l.take j).filter fun y=>!decide (x=y)).length [(V.str y,false)])))[id]? =some (.box (ae3 cs ((l.take j).filter fun y=>!decide (x=y)).length [(V.str y,false)])):=List.getElem?_set_self (List.getElem?_eq_some_iff.1 hs).1
   obtain ⟨t,ht,hex⟩:=hex
   obtain ⟨cs',g1,g2,g3⟩:=bd4 hw hl hc k (j+1) (by omega) _ _ hs' hm' ⟨t,by omega,hex⟩
   rw [ak0] at g2 g3
   refine ⟨cs',by rw [g1];exact aD8 (by simp;omega),?_,g3⟩
   apply ab1.ag4
   unfold ab1.L0b
   rw [show lnV (.slo id 0 1 l.length c)=some ((l.length:Nat):Int) from rfl,Option.bind_some,ah8 (by omega)]
   simp only [cond_true,hix,hix2,Option.bind_some,show az2 (.obj id j)=true from rfl,show ∀n,az2 (.obj id n)=true from fun _=>rfl,ck,hld,aS_v,hw.1,aB_v,decide_eq_false hxy,Bool.not_false,cond_true,aO_v]
   rw [af6 hs (by simp;omega),w6_1 (by omega),←hl']
   exact J1 _ _ _ g2
theorem SDel_is {w:V}{x:By}{l:List By}{v:V}{s:List O}(hw:fnS w x)(hv:SL s v l)(hl:l.length<=1000000)(hn:(∃id c,v=.slo id 0 1 l.length c)∨l=[]):
  ∃v',RZ.R ab8 [v,w] s=some (.ret [v'] s)/\SL s v' (delS x l)/\v'=v/\delS x l=l∨∃id c cs,v=.slo id 0 1 l.length c/\v'=.slo id 0 1 (delS x l).length c/\RZ.R ab8 [v,w] s=some (.ret [v'] (s.set id (.box cs)))/\SL (s.set id (.box cs)) v' (delS x l):=by
 have hi:=SIdx_is hw hv (by omega)
 cases hx:idxP (fun y=>decide (x=y)) l 0 with
 | none=>
  rw [hx] at hi
  have he:=bb6 hx
  refine ⟨v,.inl ⟨?_,by unfold delS;rw [he];exact hv,rfl,he⟩⟩
  apply ab1.b_of
  unfold ab1.b
  rw [ck_t (by simp [hv.ad2,hw.2]),cS_v hi,aI_v]
  show retK [v] s=_
  unfold retK
  rw [ck_t (by
   rcases hv with h | ⟨id,c,cs,rfl,_⟩
   ·rcases h with ⟨nn,rfl,_⟩ | ⟨_,k',rfl⟩<;>rfl
   ·rfl)]
 | some d=>
  rw [hx] at hi
  obtain ⟨d',h1,h2,h3,y,h4,h5⟩:=bb5 hx
  obtain rfl:d=d':=by omega
  have hh:=h5
  simp only [decide_eq_true_eq] at h5
  rcases hn with ⟨id,c,rfl⟩ | rfl
  ·rcases hv with h | ⟨id',c',cs,e,g1,g2,g3,g4⟩
   ·rcases h with ⟨nn,h,_⟩ | ⟨_,k',h⟩<;>cases h
   ·injection e with e1 e2 e3 e4 e5
    subst e1;subst e5
    have hm:Mid V.str (fun y=>decide (x=y)) l cs (d+1):=by
     have h0:Mid V.str (fun y=>decide (x=y)) l cs d:=⟨g3,(fun t x ht=>by
      rw [h3] at ht
      refine g4 t x ?_
      rw [List.getElem?_take] at ht
      split at ht
      ·exact ht
      ·cases ht),fun t x _ ht=>g4 t x ht⟩
     exact h0.skip h4 hh
    obtain ⟨cs',k1,k2,k3⟩:=bd4 hw (by omega) g2 (l.length-(d+1)) (d+1) (by omega) s cs g1 hm ⟨d,by omega,y,h4,h5⟩
    refine ⟨_,.inr ⟨id,c,cs',rfl,rfl,?_,k3⟩⟩
    apply ab1.b_of
    unfold ab1.b
    rw [ck_t (by simp [hw.2];rfl),cS_v hi,aI_v]
    rw [show (((d:Nat):Int)==((-1):Int))=false from by simp,cond_false,w6_1 (by omega)]
    rw [aB6 h4,List.filter_append,List.filter_cons,decide_eq_true h5,show ([]:List By).filter _=[] from rfl] at k2
    simp only [Bool.not_true,Bool.false_eq_true,if_false,List.append_nil,h3] at k2
    rw [show (l.take d).length=d from by simp;omega] at k2
    exact k2
  ·exact absurd h2 (by simp)
end Go.Proofs.YtnpjififnhjbbaaDoor.E
set_option maxRecDepth 100000
namespace Go.Proofs.YtnpjififnhjbbaaDoor.E
open Go
abbrev PL :=GL (fun y:Nat=>V.obj y 0)
def delN (s:Nat)(l:List Nat):List Nat:=l.filter fun x=>!decide (s=x)
theorem live_set {s:List O}{id:Nat}{cs:List (V×Bool)}{y:Nat}(h:at2 s y=true):at2 (s.set id (.box cs)) y=true:=by
 unfold at2 at h ⊢
 rw [List.getElem?_set]
 by_cases e:id=y
 ·subst e
  rw [if_pos rfl]
  cases hs:s[id]? with
  | none=>rw [hs] at h;cases h
  | some o=>rw [if_pos (List.getElem?_eq_some_iff.1 hs).1]
 ·rw [if_neg e];exact h
def fnO (w:V)(x:Nat):Prop:=(∀(s:List O) (y:Nat) (K KP:V->List O->R),at2 s x=true->at2 s y=true->aD5 RZ.R w [.obj y 0] s K KP=K (.bool (decide (x=y))) s)/\ad2 w=true
theorem bB9 {v w:V}{x:Nat}{l:List Nat}{s:List O}(hw:fnO w x)(hx:at2 s x=true)(hlv:∀y∈l,at2 s y=true)(hv:PL s v l)(hl:l.length<9223372036854775807):∀(k i:Nat),i+k=l.length->ac6.L0 RZ v w l.length i s=some (.ret [.int .i64 (match idxP (fun y=>decide (x=y)) (l.drop i) i with | some j=>(j:Int) | none=>-1)] s)
 | 0,i,h=>by
  obtain rfl:i=l.length:=by omega
  apply ac6.ag4
  unfold ac6.L0b
  rw [ag2,List.drop_length]
  rfl
 | k+1,i,h=>by
  have ih:=bB9 hw hx hlv hv hl k (i+1) (by omega)
  obtain ⟨c,hc⟩:=getL (l:=l) (i:=i) (by omega)
  obtain ⟨p,h1,h2,h3⟩:=hv.ix obj_f hc
  apply ac6.ag4
  unfold ac6.L0b
  rw [ah8 (by omega),am8 hc]
  simp only [cond_true,h1,Option.bind_some,h2,ck,h3,hw.1 s c _ _ hx (hlv c (List.mem_of_getElem? hc)),aB_v,w6_1 (show i<9223372036854775807 by omega),ih,idxP]
  by_cases h:x=c
  ·rw [if_pos (decide_eq_true h),decide_eq_true h];rfl
  ·rw [if_neg (by simp [h]),decide_eq_false h];rfl
theorem PIdx_is {v w:V}{x:Nat}{l:List Nat}{s:List O}(hw:fnO w x)(hx:at2 s x=true)(hlv:∀y∈l,at2 s y=true)(hv:PL s v l)(hl:l.length<9223372036854775807):RZ.R ak1 [v,w] s=some (.ret [.int .i64 (match idxP (fun y=>decide (x=y)) l 0 with | some j=>(j:Int) | none=>-1)] s):=by
 apply ac6.b_of
 unfold ac6.b
 rw [hv.ln]
 exact bB9 hw hx hlv hv hl l.length 0 (by omega)
theorem CLS_60 {s:List O}{id off n c:Nat}{cs:List (V×Bool)}(hs:s[id]? =some (.box cs))(hl:off+n<=cs.length):∃z:List (V×Bool),z.length=n/\CLS 60 (.slo id off 1 n c) s=some (s.set id (.box (ae3 cs off z))):=by
 have hz:zeroV Tryd.prog 60=some (.nilptr):=by kernel_rfl
 have hc:Tryd.prog.cellsOf 60=1:=by kernel_rfl
 refine ⟨((List.replicate n [V.nilptr]).flatten.map fun c=>(c,nilB c)),by simp,?_⟩
 show clS Tryd.prog 60 _ s=_
 unfold clS
 rw [hz]
 simp only [Option.bind_some,hs,hc]
 rw [show (Nat.blt 0 1&&1==1&&(V.cells (.nilptr)).length==1&&ac5 (V.cells (.nilptr))&&Nat.ble (off+n*1) cs.length)=true from by
  rw [Nat.mul_one,Nat.ble_eq_true_of_le hl];rfl]
 rfl
theorem bd5 {w:V}{x:Nat}{l:List Nat}{id c:Nat}(hw:fnO w x)(hl:l.length<9223372036854775807)(hc:l.length<=c):∀(k j:Nat),j+k=l.length->∀(s:List O) (cs:List (V×Bool)),at2 s x=true->(∀y∈l,at2 s y=true)->s[id]? =some (.box cs)->Mid (fun y=>V.obj y 0) (fun y=>decide (x=y)) l cs j->(∃t<j,∃y,l[t]? =some y/\x=y) ->
  ∃cs',cs'.length=cs.length/\aa8.L0 RZ (.slo id 0 1 l.length c) w (((l.take j).filter fun y=>!decide (x=y)).length:Nat) j s=some (.ret [.slo id 0 1 (delN x l).length c] (s.set id (.box cs')))/\PL (s.set id (.box cs')) (.slo id 0 1 (delN x l).length c) (delN x l)
 | 0,j,h,s,cs,_,_,hs,hm,⟨t,ht,y,hy,hxy⟩=>by
  obtain rfl:j=l.length:=by omega
  have hlen:=hm.len
  have hlt:(delN x l).length<l.length:=by
   unfold delN
   refine Nat.lt_of_le_of_ne (List.length_filter_le _ _) fun e=>?_
   rw [List.length_filter_eq_length_iff] at e
   have:=e y (List.mem_of_getElem? hy)
   rw [decide_eq_true hxy] at this;cases this
  obtain ⟨z,hz,hcl⟩:=CLS_60 (s:=s) (id:=id) (off:=(delN x l).length) (n:=l.length-(delN x l).length) (c:=c-(delN x l).length) hs (by omega)
  refine ⟨ae3 cs (delN x l).length z,aD8 (by omega),?_,hm.done hs hc z (show (delN x l).length+z.length<=cs.length by omega)⟩
  apply aa8.ag4
  unfold aa8.L0b
  rw [List.take_length]
  rw [show lnV (.slo id 0 1 l.length c)=some ((l.length:Nat):Int) from rfl,Option.bind_some,ag2]
  show (bif false then _ else (slV 1 _ (some (vI (((delN x l).length:Nat):Int))) none).bind _)=_
  rw [cond_false,slV_from (by omega) (.inl (by omega)),Option.bind_some,hcl,Option.bind_some]
  show (slV 1 _ none (some (vI (((delN x l).length:Nat):Int)))).bind _=_
  rw [slV_to (by omega),Option.bind_some]
  rfl
 | k+1,j,h,s,cs,hx,hlv,hs,hm,hex=>by
  obtain ⟨y,hy⟩:=getL (l:=l) (i:=j) (by omega)
  have hj:=(List.getElem?_eq_some_iff.1 hy).1
  have hlen:=hm.len
  have hfl:=by9 (fun y=>decide (x=y)) l j
  have hv:PL s (.slo id 0 1 l.length c) l->True:=fun _=>trivial
  have hcs:=hm.rest j y (Nat.le_refl _) hy
  obtain ⟨c0,h6,h7⟩:=Option.map_eq_some_iff.1 hcs
  have hix:ixV 1 (.slo id 0 1 l.length c) (j:Int)=some (.obj id j):=by
   unfold ixV
   simp only
   rw [if_pos ⟨trivial,by omega,by omega⟩]
   show some (V.obj id (0+j*1))=_
   rw [Nat.mul_one,Nat.zero_add]
  have hix2:ixV 1 (.slo id 0 1 l.length c) ((((l.take j).filter fun y=>!decide (x=y)).length:Nat):Int)=some (.obj id ((l.take j).filter fun y=>!decide (x=y)).length):=by
   unfold ixV
   simp only
   rw [if_pos ⟨trivial,by omega,by omega⟩]
   show some (V.obj id (0+_*1))=_
   rw [Nat.mul_one,Nat.zero_add];rfl
  have hld:∀K,ld1 s (.obj id j) K=K (V.obj y 0):=by
   intro K
   unfold ld1 ldV
   simp only [hs,taken1 h6,Option.map_some,List.map_cons,List.map_nil,h7]
   rfl
  have J1:∀(i':Nat) (s':List O) (o:Out),aa8.L0 RZ (.slo id 0 1 l.length c) w i' ((j+1:Nat):Int) s'=some o->aa8.J1 RZ (.slo id 0 1 l.length c) w i' j s'=some o:=by
   intro i' s' o h
   apply aa8.ak6
   unfold aa8.J1b
   rw [w6_1 (by omega)];exact h
  by_cases hxy:x=y
  ·obtain ⟨cs',g1,g2,g3⟩:=bd5 hw hl hc k (j+1) (by omega) s cs hx hlv hs (hm.skip hy (decide_eq_true hxy)) ⟨j,by omega,y,hy,hxy⟩
   refine ⟨cs',g1,?_,g3⟩
   rw [aB6 hy,List.filter_append,List.filter_cons,decide_eq_true hxy,show ([]:List Nat).filter _=[] from rfl] at g2
   simp only [Bool.not_true,Bool.false_eq_true,if_false,List.append_nil] at g2
   apply aa8.ag4
   unfold aa8.L0b
   rw [show lnV (.slo id 0 1 l.length c)=some ((l.length:Nat):Int) from rfl,Option.bind_some,ah8 (by omega)]
   simp only [cond_true,hix,Option.bind_some,show az2 (.obj id j)=true from rfl,ck,hld,hw.1 s y _ _ hx (hlv y (List.mem_of_getElem? hy)),aB_v,decide_eq_true hxy,Bool.not_true,cond_false]
   exact J1 _ _ _ g2
  ·obtain ⟨hm',hl'⟩:=hm.keep (b:=false) hy (decide_eq_false hxy)
   have hs':(s.set id (.box (ae3 cs ((l.take j).filter fun y=>!decide (x=y)).length [(V.obj y 0,false)])))[id]? =some (.box (ae3 cs ((l.take j).filter fun y=>!decide (x=y)).length [(V.obj y 0,false)])):=List.getElem?_set_self (List.getElem?_eq_some_iff.1 hs).1
   obtain ⟨t,ht,hex⟩:=hex
   obtain ⟨cs',g1,g2,g3⟩:=bd5 hw hl hc k (j+1) (by omega) _ _ (live_set hx) (fun y hy=>live_set (hlv y hy)) hs' hm' ⟨t,by omega,hex⟩
   rw [ak0] at g2 g3
   refine ⟨cs',by rw [g1];exact aD8 (by simp;omega),?_,g3⟩
   apply aa8.ag4
   unfold aa8.L0b
   rw [show lnV (.slo id 0 1 l.length c)=some ((l.length:Nat):Int) from rfl,Option.bind_some,ah8 (by omega)]
   simp only [cond_true,hix,hix2,Option.bind_some,show az2 (.obj id j)=true from rfl,show ∀n,az2 (.obj id n)=true from fun _=>rfl,ck,hld,hw.1 s y _ _ hx (hlv y (List.mem_of_getElem? hy)),aB_v,decide_eq_false hxy,Bool.not_false,cond_true,aO_v,show V.good (.obj y 0)=true from rfl,show nilB (.obj y 0)=false from rfl]
   rw [af6 hs (by simp;omega),w6_1 (by omega),←hl']
   exact J1 _ _ _ g2
theorem PDel_is {w:V}{x:Nat}{l:List Nat}{v:V}{s:List O}(hw:fnO w x)(hx:at2 s x=true)(hlv:∀y∈l,at2 s y=true)(hv:PL s v l)(hl:l.length<=1000000)(hn:(∃id c,v=.slo id 0 1 l.length c)∨l=[]):
  ∃v',RZ.R ae1 [v,w] s=some (.ret [v'] s)/\PL s v' (delN x l)/\v'=v/\delN x l=l∨∃id c cs,v=.slo id 0 1 l.length c/\v'=.slo id 0 1 (delN x l).length c/\RZ.R ae1 [v,w] s=some (.ret [v'] (s.set id (.box cs)))/\PL (s.set id (.box cs)) v' (delN x l):=by
 have hi:=PIdx_is hw hx hlv hv (by omega)
 cases hxx:idxP (fun y=>decide (x=y)) l 0 with
 | none=>
  rw [hxx] at hi
  have he:=bb6 hxx
  refine ⟨v,.inl ⟨?_,by unfold delN;rw [he];exact hv,rfl,he⟩⟩
  apply aa8.b_of
  unfold aa8.b
  rw [ck_t (by simp [hv.ad2,hw.2]),cS_v hi,aI_v]
  show retK [v] s=_
  unfold retK
  rw [ck_t (by
   rcases hv with h | ⟨id,c,cs,rfl,_⟩
   ·rcases h with ⟨nn,rfl,_⟩ | ⟨_,k',rfl⟩<;>rfl
   ·rfl)]
 | some d=>
  rw [hxx] at hi
  obtain ⟨d',h1,h2,h3,y,h4,h5⟩:=bb5 hxx
  obtain rfl:d=d':=by omega
  have hh:=h5
  simp only [decide_eq_true_eq] at h5
  rcases hn with ⟨id,c,rfl⟩ | rfl
  ·rcases hv with h | ⟨id',c',cs,e,g1,g2,g3,g4⟩
   ·rcases h with ⟨nn,h,_⟩ | ⟨_,k',h⟩<;>cases h
   ·injection e with e1 e2 e3 e4 e5
    subst e1;subst e5
    have hm:Mid (fun y=>V.obj y 0) (fun y=>decide (x=y)) l cs (d+1):=by
     have h0:Mid (fun y=>V.obj y 0) (fun y=>decide (x=y)) l cs d:=⟨g3,(fun t x ht=>by
      rw [h3] at ht
      refine g4 t x ?_
      rw [List.getElem?_take] at ht
      split at ht
      ·exact ht
      ·cases ht),fun t x _ ht=>g4 t x ht⟩
     exact h0.skip h4 hh
    obtain ⟨cs',k1,k2,k3⟩:=bd5 hw (by omega) g2 (l.length-(d+1)) (d+1) (by omega) s cs hx hlv g1 hm ⟨d,by omega,y,h4,h5⟩
    refine ⟨_,.inr ⟨id,c,cs',rfl,rfl,?_,k3⟩⟩
    apply aa8.b_of
    unfold aa8.b
    rw [ck_t (by simp [hw.2];rfl),cS_v hi,aI_v]
    rw [show (((d:Nat):Int)==((-1):Int))=false from by simp,cond_false,w6_1 (by omega)]
    rw [aB6 h4,List.filter_append,List.filter_cons,decide_eq_true h5,show ([]:List Nat).filter _=[] from rfl] at k2
    simp only [Bool.not_true,Bool.false_eq_true,if_false,List.append_nil,h3] at k2
    rw [show (l.take d).length=d from by simp;omega] at k2
    exact k2
  ·exact absurd h2 (by simp)
end Go.Proofs.YtnpjififnhjbbaaDoor.E
set_option maxRecDepth 100000
namespace Go.Proofs.YtnpjififnhjbbaaDoor.E
open Go
structure CV where
 c0:V
 c1:V
 c8:V
 c9:V
 c10:V
 c11:V
 c12:V
 f11:Bool
def boxC (c:CV)(T:TX):List (V×Bool):=[(c.c0,true),(c.c1,true),(vI T.num,false),(vI 0,false),(vI T.st,false),(vB T.com,false),(vB T.mix,false),(vB T.haz,false),(c.c8,true),(c.c9,true),(c.c10,true),(c.c11,c.f11),(c.c12,true),(V.map T.q,false),(vB T.lgd,false)]
def as7 (l:List (Int×By)):List V:=l.map fun k=>vA [vI k.1,vS k.2]
theorem stepsV_app (l:List (Int×By))(k:Int×By):as7 l++[vA [vI k.1,vS k.2]]=as7 (l++[k]):=by unfold as7;rw [List.map_append];rfl
theorem aU5 (l:List (Int×By)):(as7 l).length=l.length:=List.length_map _
theorem ak9 (l:List By)(k:By):aa1 l++[vS k]=aa1 (l++[k]):=by unfold aa1;rw [List.map_append];rfl
theorem isL.aLn {k:Nat}{es:List V}{v:V}(h:isL k es v):∃nn,(es≠[]->nn=true)/\nilS v=some (!nn)/\∀K,Go.Proofs.YtnpjififnhjbbaaDoor.E.aL k v K=K nn es:=by
 obtain ⟨nn,h1,h2⟩:=h.aL
 rcases h with ⟨n2,rfl,h⟩ | ⟨rfl,k',rfl⟩
 ·exact ⟨n2,h,rfl,fun K=>by show aw7 k (.list n2 k es) K=_;unfold aw7;simp only [if_true]⟩
 ·refine ⟨false,fun h=>absurd rfl h,rfl,fun K=>?_⟩
  show aw7 k (.list false k' []) K=_
  unfold aw7
  simp only
  by_cases h:k'=k
  ·rw [if_pos h]
  ·rw [if_neg h]
structure CR (c:CV)(T:TX):Prop where
 h0:isL 1 (aa1 T.res) c.c0
 h1:isL 1 (aa1 T.wat) c.c1
 h8:isL 1 (aa1 T.dbt) c.c8
 h9:isL 2 (as7 T.que) c.c9
 h10:isL 1 (aa1 T.yes) c.c10
 h12:isL 1 (aa1 T.fgt) c.c12
 n0:nilS c.c0=some T.res.isEmpty
theorem aw0 {x:Option Out}:both x x=x:=by
 unfold both
 cases x with
 | none=>rfl
 | some a=>simp only [bg9,cond_true]
theorem am4 {s:List O}{id off:Nat}{cs:List (V×Bool)}{x:V×Bool}(h:s[id]? =some (.box cs))(hc:cs[off]? =some x)(K:V->R):rd1 s id off K=K x.1:=by
 unfold rd1
 rw [h]
 simp only [hc]
theorem ad5 {s:List O}{id:Nat}{o x:O}(h:s[id]? =some o):(s.set id x)[id]? =some x:=List.getElem?_set_self (List.getElem?_eq_some_iff.1 h).1
section
variable {s:List O} {b:Nat} {c:CV} {T:TX} (h:s[b]? =some (.box (boxC c T)))
theorem rdC0 {s:List O}{b:Nat}{c:CV}{T:TX}(h:s[b]? =some (.box (boxC c T)))(K:V->R):rd1 s b 0 K=K (c.c0):=am4 (off:=0) (x:=(c.c0,true)) h rfl K
theorem rdC1 {s:List O}{b:Nat}{c:CV}{T:TX}(h:s[b]? =some (.box (boxC c T)))(K:V->R):rd1 s b 1 K=K (c.c1):=am4 (off:=1) (x:=(c.c1,true)) h rfl K
theorem rdC2 {s:List O}{b:Nat}{c:CV}{T:TX}(h:s[b]? =some (.box (boxC c T)))(K:V->R):rd1 s b 2 K=K (vI T.num):=am4 (off:=2) (x:=(vI T.num,false)) h rfl K
theorem rdC3 {s:List O}{b:Nat}{c:CV}{T:TX}(h:s[b]? =some (.box (boxC c T)))(K:V->R):rd1 s b 3 K=K (vI 0):=am4 (off:=3) (x:=(vI 0,false)) h rfl K
theorem rdC4 {s:List O}{b:Nat}{c:CV}{T:TX}(h:s[b]? =some (.box (boxC c T)))(K:V->R):rd1 s b 4 K=K (vI T.st):=am4 (off:=4) (x:=(vI T.st,false)) h rfl K
theorem rdC5 {s:List O}{b:Nat}{c:CV}{T:TX}(h:s[b]? =some (.box (boxC c T)))(K:V->R):rd1 s b 5 K=K (vB T.com):=am4 (off:=5) (x:=(vB T.com,false)) h rfl K
theorem rdC8 {s:List O}{b:Nat}{c:CV}{T:TX}(h:s[b]? =some (.box (boxC c T)))(K:V->R):rd1 s b 8 K=K (c.c8):=am4 (off:=8) (x:=(c.c8,true)) h rfl K
theorem rdC9 {s:List O}{b:Nat}{c:CV}{T:TX}(h:s[b]? =some (.box (boxC c T)))(K:V->R):rd1 s b 9 K=K (c.c9):=am4 (off:=9) (x:=(c.c9,true)) h rfl K
theorem bu6 {s:List O}{b:Nat}{c:CV}{T:TX}(h:s[b]? =some (.box (boxC c T)))(K:V->R):rd1 s b 10 K=K (c.c10):=am4 (off:=10) (x:=(c.c10,true)) h rfl K
theorem be5 {s:List O}{b:Nat}{c:CV}{T:TX}(h:s[b]? =some (.box (boxC c T)))(K:V->R):rd1 s b 11 K=K (c.c11):=am4 (off:=11) (x:=(c.c11,c.f11)) h rfl K
theorem rdC12 {s:List O}{b:Nat}{c:CV}{T:TX}(h:s[b]? =some (.box (boxC c T)))(K:V->R):rd1 s b 12 K=K (c.c12):=am4 (off:=12) (x:=(c.c12,true)) h rfl K
theorem rdC13 {s:List O}{b:Nat}{c:CV}{T:TX}(h:s[b]? =some (.box (boxC c T)))(K:V->R):rd1 s b 13 K=K (V.map T.q):=am4 (off:=13) (x:=(V.map T.q,false)) h rfl K
theorem rdC14 {s:List O}{b:Nat}{c:CV}{T:TX}(h:s[b]? =some (.box (boxC c T)))(K:V->R):rd1 s b 14 K=K (vB T.lgd):=am4 (off:=14) (x:=(vB T.lgd,false)) h rfl K
theorem wrC4 {s:List O}{b:Nat}{c:CV}{T:TX}(h:s[b]? =some (.box (boxC c T)))(n:Int)(K:List O->R):wrO s b 4 [(vI n,false)] K=K (s.set b (.box (boxC (c) ({T with st:=n})))):=af6 h (Nat.le_of_ble_eq_true rfl) K
theorem wrC6 {s:List O}{b:Nat}{c:CV}{T:TX}(h:s[b]? =some (.box (boxC c T)))(x:Bool)(K:List O->R):wrO s b 6 [(vB x,false)] K=K (s.set b (.box (boxC (c) ({T with mix:=x})))):=af6 h (Nat.le_of_ble_eq_true rfl) K
theorem wrC7 {s:List O}{b:Nat}{c:CV}{T:TX}(h:s[b]? =some (.box (boxC c T)))(x:Bool)(K:List O->R):wrO s b 7 [(vB x,false)] K=K (s.set b (.box (boxC (c) ({T with haz:=x})))):=af6 h (Nat.le_of_ble_eq_true rfl) K
theorem wrC5 {s:List O}{b:Nat}{c:CV}{T:TX}(h:s[b]? =some (.box (boxC c T)))(x:Bool)(K:List O->R):wrO s b 5 [(vB x,false)] K=K (s.set b (.box (boxC (c) ({T with com:=x})))):=af6 h (Nat.le_of_ble_eq_true rfl) K
theorem wrC14 {s:List O}{b:Nat}{c:CV}{T:TX}(h:s[b]? =some (.box (boxC c T)))(x:Bool)(K:List O->R):wrO s b 14 [(vB x,false)] K=K (s.set b (.box (boxC (c) ({T with lgd:=x})))):=af6 h (Nat.le_of_ble_eq_true rfl) K
theorem wrC9 {s:List O}{b:Nat}{c:CV}{T:TX}(h:s[b]? =some (.box (boxC c T)))(v:V)(K:List O->R):wrO s b 9 [(v,true)] K=K (s.set b (.box (boxC {c with c9:=v} T))):=af6 h (Nat.le_of_ble_eq_true rfl) K
theorem wrC12 {s:List O}{b:Nat}{c:CV}{T:TX}(h:s[b]? =some (.box (boxC c T)))(v:V)(K:List O->R):wrO s b 12 [(v,true)] K=K (s.set b (.box (boxC {c with c12:=v} T))):=af6 h (Nat.le_of_ble_eq_true rfl) K
theorem bp2 {s:List O}{b:Nat}{c:CV}{T:TX}(h:s[b]? =some (.box (boxC c T)))(v:V)(f:Bool)(K:List O->R):wrO s b 11 [(v,f)] K=K (s.set b (.box (boxC {c with c11:=v,f11:=f} T))):=af6 h (Nat.le_of_ble_eq_true rfl) K
theorem appC8 {s:List O}{b:Nat}{c:CV}{T:TX}(h:s[b]? =some (.box (boxC c T)))(hc:CR c T)(x:By)(hl:T.dbt.length<=1000000):∃v,isL 1 (aa1 (T.dbt++[x])) v/\∀(K1:V->R) (K2:List O->R),rdT s b 8 K1 (fun v s'=>aL 1 v fun m e=>apK e [vS x] 16 (wrO s' b 8 [(vL (m||!([vS x]:List V).isEmpty) 1 (e++[vS x]),true)] fun s''=>K2 s''))=K2 (s.set b (.box (boxC {c with c8:=v} T))):=by
 obtain ⟨nn,h1,h2⟩:=hc.h8.aL
 refine ⟨_,by rw [←ak9];exact aG8 (nn:=nn),fun K1 K2=>?_⟩
 unfold rdT
 rw [h]
 show aL 1 c.c8 _=_
 rw [h2]
 unfold apK
 rw [ck_t (by rw [ab9];simp only [List.length_cons,List.length_nil,Bool.and_eq_true,Nat.ble_eq];omega)]
 rw [af6 (ad5 h) (Nat.le_of_ble_eq_true rfl),ak0]
 rfl
theorem appC9 {s:List O}{b:Nat}{c:CV}{T:TX}(h:s[b]? =some (.box (boxC c T)))(hc:CR c T)(x:Int×By)(hl:T.que.length<=1000000):∃v,isL 2 (as7 (T.que++[x])) v/\∀(K1:V->R) (K2:List O->R),rdT s b 9 K1 (fun v s'=>aL 2 v fun m e=>apK e [vA [vI x.1,vS x.2]] 24 (wrO s' b 9 [(vL (m||!([vA [vI x.1,vS x.2]]:List V).isEmpty) 2 (e++[vA [vI x.1,vS x.2]]),true)] fun s''=>K2 s''))=K2 (s.set b (.box (boxC {c with c9:=v} T))):=by
 obtain ⟨nn,h1,h2⟩:=hc.h9.aL
 refine ⟨_,by rw [←stepsV_app];exact aG8 (nn:=nn),fun K1 K2=>?_⟩
 unfold rdT
 rw [h]
 show aL 2 c.c9 _=_
 rw [h2]
 unfold apK
 rw [ck_t (by rw [aU5];simp only [List.length_cons,List.length_nil,Bool.and_eq_true,Nat.ble_eq];omega)]
 rw [af6 (ad5 h) (Nat.le_of_ble_eq_true rfl),ak0]
 rfl
theorem appC10 {s:List O}{b:Nat}{c:CV}{T:TX}(h:s[b]? =some (.box (boxC c T)))(hc:CR c T)(x:By)(hl:T.yes.length<=1000000):∃v,isL 1 (aa1 (T.yes++[x])) v/\∀(K1:V->R) (K2:List O->R),rdT s b 10 K1 (fun v s'=>aL 1 v fun m e=>apK e [vS x] 16 (wrO s' b 10 [(vL (m||!([vS x]:List V).isEmpty) 1 (e++[vS x]),true)] fun s''=>K2 s''))=K2 (s.set b (.box (boxC {c with c10:=v} T))):=by
 obtain ⟨nn,h1,h2⟩:=hc.h10.aL
 refine ⟨_,by rw [←ak9];exact aG8 (nn:=nn),fun K1 K2=>?_⟩
 unfold rdT
 rw [h]
 show aL 1 c.c10 _=_
 rw [h2]
 unfold apK
 rw [ck_t (by rw [ab9];simp only [List.length_cons,List.length_nil,Bool.and_eq_true,Nat.ble_eq];omega)]
 rw [af6 (ad5 h) (Nat.le_of_ble_eq_true rfl),ak0]
 rfl
theorem appC12 {s:List O}{b:Nat}{c:CV}{T:TX}(h:s[b]? =some (.box (boxC c T)))(hc:CR c T)(x:By)(hl:T.fgt.length<=1000000):∃v,isL 1 (aa1 (T.fgt++[x])) v/\∀(K1:V->R) (K2:List O->R),rdT s b 12 K1 (fun v s'=>aL 1 v fun m e=>apK e [vS x] 16 (wrO s' b 12 [(vL (m||!([vS x]:List V).isEmpty) 1 (e++[vS x]),true)] fun s''=>K2 s''))=K2 (s.set b (.box (boxC {c with c12:=v} T))):=by
 obtain ⟨nn,h1,h2⟩:=hc.h12.aL
 refine ⟨_,by rw [←ak9];exact aG8 (nn:=nn),fun K1 K2=>?_⟩
 unfold rdT
 rw [h]
 show aL 1 c.c12 _=_
 rw [h2]
 unfold apK
 rw [ck_t (by rw [ab9];simp only [List.length_cons,List.length_nil,Bool.and_eq_true,Nat.ble_eq];omega)]
 rw [af6 (ad5 h) (Nat.le_of_ble_eq_true rfl),ak0]
 rfl
end
end Go.Proofs.YtnpjififnhjbbaaDoor.E
set_option maxRecDepth 100000
namespace Go.Proofs.YtnpjififnhjbbaaDoor.E
open Go
def qes (l:List ((Int×By)×Int)):List (V×V):=l.map fun e=>(vA [vI e.1.1,vS e.1.2],vI e.2)
def RR (s:List O)(b r:Nat)(rest:Option (List By))(v:V):Prop:=match rest with
 | none=>∃k,v=.list false k []
 | some l=>SL s v l/\((l=[]/\v=.list true 1 [])∨(r≠b/\∃c,v=.slo r 0 1 l.length c))
theorem RR.sl {s:List O}{b r:Nat}{rest:Option (List By)}{v:V}(h:RR s b r rest v):SL s v (rest.getD []):=by
 cases rest with
 | none=>obtain ⟨k,rfl⟩:=h;exact .inl aq7
 | some l=>exact h.1
theorem RR.nil {s:List O}{b r:Nat}{rest:Option (List By)}{v:V}(h:RR s b r rest v):nilS v=some rest.isNone:=by
 cases rest with
 | none=>obtain ⟨k,rfl⟩:=h;rfl
 | some l=>rcases h.2 with ⟨_,rfl⟩ | ⟨_,c,rfl⟩<;>rfl
theorem RR.set {s s':List O}{b r:Nat}{rest:Option (List By)}{v:V}(h:RR s b r rest v)(hs:r≠b->s'[r]? =s[r]?):RR s' b r rest v:=by
 cases rest with
 | none=>exact h
 | some l=>
  refine ⟨?_,h.2⟩
  rcases h.2 with ⟨rfl,rfl⟩ | ⟨hr,c,rfl⟩
  ·exact .inl aV8
  ·refine h.1.set fun id c e=>?_
   injection e with e;subst e
   exact hs hr
structure TxC (s:List O)(c:CV)(r:Nat)(T:TX):Prop where
 box:s[T.b]? =some (.box (boxC c T))
 cr:CR c T
 rr:RR s T.b r T.rest c.c11
 qt:∃k,s[T.q]? =some (.map (qes T.qt) k)
theorem TxC.ne {s:List O}{c:CV}{r:Nat}{T:TX}(h:TxC s c r T):T.b≠T.q:=by
 intro e
 obtain ⟨k,hk⟩:=h.qt
 rw [←e,h.box] at hk
 cases hk
theorem TxC.put {s:List O}{c:CV}{r:Nat}{T:TX}(h:TxC s c r T){c':CV}{T':TX}(hr:CR c' T')(h1:T'.b=T.b:=by rfl)(h2:T'.q=T.q:=by rfl)(h3:T'.qt=T.qt:=by rfl)(h5:T'.rest=T.rest:=by rfl)(h6:c'.c11=c.c11:=by rfl):TxC (s.set T.b (.box (boxC c' T'))) c' r T':=by
 refine ⟨?_,hr,?_,?_⟩
 ·rw [h1];exact ad5 h.box
 ·rw [h1,h5,h6]
  exact h.rr.set fun hr=>by rw [List.getElem?_set_ne (fun e=>hr e.symm)]
 ·rw [h2,h3]
  obtain ⟨k,hk⟩:=h.qt
  exact ⟨k,by rw [List.getElem?_set_ne h.ne];exact hk⟩
theorem ab7 {s:List O}{i:Nat}{o:O}(h:s[i]? =some o):s.set i o=s:=by
 obtain ⟨hi,e⟩:=List.getElem?_eq_some_iff.1 h
 subst e
 exact List.set_getElem_self hi
theorem SLof {s:List O}{v:V}{l:List By}(h:isL 1 (aa1 l) v):SL s v l:=.inl h
theorem isLn {k:Nat}{es:List V}{nn:Bool}(h:es≠[]->nn=true):isL k es (.list nn k es):=.inl ⟨nn,rfl,h⟩
theorem bd2 {mm:Bool}{m:Nat}:∀(k i:Nat) (s:List O) (c:CV) (r:Nat) (T:TX),TxC s c r T->i+k=T.res.length->T.res.length<=1000->T.yes.length<=1000000->(T.rest.getD []).length<=1000000->T.que.length+k<=1000000 ->
  ∃c',CR c' {T with que:=T.que++((T.res.drop i).filter (au2 T)).map fun s=>(4,s)}/\c'.c11=c.c11/\ac8.L0 RZ T.b 0 mm (aa1 T.res) T.res.length i s=some (.ret [] (s.set T.b (.box (boxC c' {T with que:=T.que++((T.res.drop i).filter (au2 T)).map fun s=>(4,s)}))))
 | 0,i,s,c,r,T,h,hi,_,_,_,_=>by
  obtain rfl:i=T.res.length:=by omega
  rw [List.drop_length]
  refine ⟨c,by simpa using h.cr,rfl,?_⟩
  apply ac8.ag4
  unfold ac8.L0b
  rw [ag2,cond_false,retRv]
  simp only [List.filter_nil,List.map_nil,List.append_nil,ab7 h.box]
 | k+1,i,s,c,r,T,h,hi,hl,hy,hr,hq=>by
  obtain ⟨x,hx⟩:=getL (l:=T.res) (i:=i) (by omega)
  obtain ⟨n10,a10,e10⟩:=h.cr.h10.aL
  have J2:∀(s':List O) (o:Out),ac8.L0 RZ T.b 0 mm (aa1 T.res) T.res.length ((i+1:Nat):Int) s'=some o->ac8.J2 RZ T.b 0 mm (aa1 T.res) T.res.length i s'=some o:=by
   intro s' o ho
   apply ac8.ar1
   unfold ac8.J2b
   rw [w6_1 (by omega)];exact ho
  have key:∃c',CR c' {T with que:=T.que++((T.res.drop i).filter (au2 T)).map fun s=>(4,s)}/\c'.c11=c.c11/\ac8.J1 RZ T.b 0 x mm (aa1 T.res) T.res.length i (au2 T x) s=some (.ret [] (s.set T.b (.box (boxC c' {T with que:=T.que++((T.res.drop i).filter (au2 T)).map fun s=>(4,s)})))):=by
   rw [am8 hx,List.filter_cons]
   cases hb:au2 T x with
   | false=>
    obtain ⟨c',g1,g2,g3⟩:=bd2 (mm:=mm) (m:=m) k (i+1) s c r T h (by omega) hl hy hr (by omega)
    refine ⟨c',g1,g2,?_⟩
    apply ac8.ak6
    unfold ac8.J1b
    exact J2 _ _ g3
   | true=>
    obtain ⟨v,hv,e9⟩:=appC9 h.box h.cr (4,x) (by omega)
    have hput:=h.put (c':={c with c9:=v}) (T':={T with que:=T.que++[(4,x)]}) ⟨h.cr.h0,h.cr.h1,h.cr.h8,hv,h.cr.h10,h.cr.h12,h.cr.n0⟩
    obtain ⟨c',g1,g2,g3⟩:=bd2 (mm:=mm) (m:=m) k (i+1) _ _ _ _ hput (by simpa using (show i+1+k=T.res.length by omega)) hl hy hr (by simp;omega)
    simp only [List.append_assoc,ak0] at g1 g3
    refine ⟨c',g1,g2,?_⟩
    apply ac8.ak6
    unfold ac8.J1b
    simp only [cond_true,Nat.reduceAdd]
    exact (e9 _ _).trans (J2 _ _ g3)
  obtain ⟨c',g1,g2,g3⟩:=key
  refine ⟨c',g1,g2,?_⟩
  apply ac8.ag4
  unfold ac8.L0b
  rw [ah8 (by omega)]
  simp only [cond_true,aj3 hx,V.cells,aC_v,aS_v,aN_v,Nat.reduceAdd,bu6 h.box,e10]
  rw [cS_v (at4 (SLof (isLn a10)) (by omega)),aB_v]
  unfold au2 at g3
  cases hb:hasS x T.yes with
  | true=>rw [hb,Bool.true_or] at g3;exact g3
  | false=>
   rw [hb,Bool.false_or] at g3
   simp only [cond_false,be5 h.box]
   rw [ck_t (by simp [h.rr.sl.ad2];rfl),cS_v (at4 h.rr.sl (by omega)),aB_v]
   exact g3
theorem back_is {m:Nat}{s:List O}{c:CV}{r:Nat}{T:TX}(h:TxC s c r T)(hl:T.res.length<=1000)(hy:T.yes.length<=1000000)(hr:(T.rest.getD []).length<=1000000):
  ∃c',CR c' (au7 T)/\c'.c11=c.c11/\RZ.R ae9 [vO m 0,vO T.b 0] s=some (.ret [] (s.set T.b (.box (boxC c' (au7 T))))):=by
 obtain ⟨n0,a0,e0⟩:=h.cr.h0.aL
 have hput:=h.put (c':={c with c9:=.list false 0 []}) (T':={T with st:=5,que:=[]}) ⟨h.cr.h0,h.cr.h1,h.cr.h8,aq7,h.cr.h10,h.cr.h12,h.cr.n0⟩
 obtain ⟨c',g1,g2,g3⟩:=bd2 (mm:=n0) (m:=m) T.res.length 0 _ _ _ _ hput (by simp) hl hy hr (by simp;omega)
 simp only [List.nil_append,ak0,List.drop_zero] at g1 g3
 refine ⟨c',g1,g2,?_⟩
 apply ac8.b_of
 unfold ac8.b
 simp only [Nat.reduceAdd]
 rw [wrC4 h.box,wrC9 (ad5 h.box),ak0]
 simp only [rdC0 (ad5 h.box),e0,ab9]
 exact g3
end Go.Proofs.YtnpjififnhjbbaaDoor.E
set_option maxRecDepth 100000
namespace Go.Proofs.YtnpjififnhjbbaaDoor.E
open Go
theorem dec_len (n:Nat)(h:n<100):(Lib.decDigits n).length<=2:=by
 unfold Lib.decDigits
 split
 ·simp
 ·unfold Lib.decDigits
  rw [dif_pos (by omega)]
  simp
theorem aR7 {n:Int}(h:0<=n/\n<100):(aG7 n).size<=2:=dec_len n.toNat (by omega)
theorem bh8 {n:Int}(h:0<=n/\n<100):RZ.R at3 [vI n] []=some (.ret [.str (aG7 n)] []):=by
 refine bt9 (g:=gItoa) rfl ?_
 unfold gItoa
 simp only
 rw [if_pos h]
 rfl
theorem strsOf_c :∀l:List By,aM5 (aa1 l)=some l
 | []=>rfl
 | x::l=>by show (aM5 (aa1 l)).map (x::·)=_;rw [strsOf_c l];rfl
theorem tail_len (sep:List UInt8):∀l:List By,(∀x∈l,x.size<=40)->(Lib.joinTail sep (l.map (·.data.toList))).length<=l.length*(40+sep.length)
 | [],_=>by simp [Lib.joinTail]
 | x::l,h=>by
  have ih:=tail_len sep l fun y hy=>h y (List.mem_cons_of_mem _ hy)
  have hx:x.data.toList.length<=40:=by
   have:=h x (List.mem_cons_self ..)
   rw [Array.length_toList];exact this
  unfold Lib.joinTail at ih ⊢
  simp only [List.map_cons,List.flatten_cons,List.length_append,List.length_cons]
  rw [Nat.succ_mul]
  omega
theorem join_len {l:List By}(h:∀x∈l,x.size<=40):(Lib.join (l.map (·.data.toList)) (⟨#[32]⟩:By).data.toList).length<=l.length*41:=by
 cases l with
 | nil=>simp [Lib.join,List.intercalate]
 | cons x l=>
  have ih:=tail_len (⟨#[32]⟩:By).data.toList l fun y hy=>h y (List.mem_cons_of_mem _ hy)
  have hx:x.data.toList.length<=40:=by
   have:=h x (List.mem_cons_self ..)
   rw [Array.length_toList];exact this
  rw [List.map_cons,Lib.join_cons,List.length_append,List.length_cons]
  have:(⟨#[32]⟩:By).data.toList.length=1:=rfl
  rw [this] at ih
  omega
theorem by0 {l:List By}(h:∀x∈l,x.size<=40):(by1 l).size<=l.length*41:=join_len h
theorem Join_is {l:List By}{nn:Bool}(hn:nn=true)(hl:l.length<=1000000)(h:∀x∈l,x.size<=40):RZ.R az5 [vL nn 1 (aa1 l),vS (⟨#[32]⟩:By)] []=some (.ret [.str (by1 l)] []):=by
 subst hn
 refine bt9 (g:=gJoin) rfl ?_
 unfold gJoin
 simp only [strsOf_c,Option.bind_some]
 rw [if_pos ⟨by omega,Nat.le_trans (join_len h) (by omega)⟩]
 rfl
theorem aH7 (a b:By):(a++b).size=a.size+b.size:=ByteArray.size_append
structure MV where
 mp:Nat
 nx:Int
 lv:V
 lf:Bool
 op:Bool
def boxM (M:MV)(gv:V)(gf:Bool):List (V×Bool):=[(.map M.mp,false),(vI M.nx,false),(M.lv,M.lf),(vB M.op,false),(gv,gf)]
section
variable {s:List O} {b:Nat} {M:MV} {gv:V} {gf:Bool} (h:s[b]? =some (.box (boxM M gv gf)))
theorem rdM0 {s:List O}{b:Nat}{M:MV}{gv:V}{gf:Bool}(h:s[b]? =some (.box (boxM M gv gf)))(K:V->R):rd1 s b 0 K=K (V.map M.mp):=am4 (off:=0) (x:=(V.map M.mp,false)) h rfl K
theorem rdM1 {s:List O}{b:Nat}{M:MV}{gv:V}{gf:Bool}(h:s[b]? =some (.box (boxM M gv gf)))(K:V->R):rd1 s b 1 K=K (vI M.nx):=am4 (off:=1) (x:=(vI M.nx,false)) h rfl K
theorem rdM2 {s:List O}{b:Nat}{M:MV}{gv:V}{gf:Bool}(h:s[b]? =some (.box (boxM M gv gf)))(K:V->R):rd1 s b 2 K=K M.lv:=am4 (off:=2) (x:=(M.lv,M.lf)) h rfl K
theorem rdM3 {s:List O}{b:Nat}{M:MV}{gv:V}{gf:Bool}(h:s[b]? =some (.box (boxM M gv gf)))(K:V->R):rd1 s b 3 K=K (vB M.op):=am4 (off:=3) (x:=(vB M.op,false)) h rfl K
theorem rdM4 {s:List O}{b:Nat}{M:MV}{gv:V}{gf:Bool}(h:s[b]? =some (.box (boxM M gv gf)))(K:V->R):rd1 s b 4 K=K gv:=am4 (off:=4) (x:=(gv,gf)) h rfl K
theorem wrM1 {s:List O}{b:Nat}{M:MV}{gv:V}{gf:Bool}(h:s[b]? =some (.box (boxM M gv gf)))(n:Int)(K:List O->R):wrO s b 1 [(vI n,false)] K=K (s.set b (.box (boxM {M with nx:=n} gv gf))):=af6 h (Nat.le_of_ble_eq_true rfl) K
theorem wrM2 {s:List O}{b:Nat}{M:MV}{gv:V}{gf:Bool}(h:s[b]? =some (.box (boxM M gv gf)))(v:V)(f:Bool)(K:List O->R):wrO s b 2 [(v,f)] K=K (s.set b (.box (boxM {M with lv:=v,lf:=f} gv gf))):=af6 h (Nat.le_of_ble_eq_true rfl) K
theorem wrM3 {s:List O}{b:Nat}{M:MV}{gv:V}{gf:Bool}(h:s[b]? =some (.box (boxM M gv gf)))(x:Bool)(K:List O->R):wrO s b 3 [(vB x,false)] K=K (s.set b (.box (boxM {M with op:=x} gv gf))):=af6 h (Nat.le_of_ble_eq_true rfl) K
theorem wrM4 {s:List O}{b:Nat}{M:MV}{gv:V}{gf:Bool}(h:s[b]? =some (.box (boxM M gv gf)))(v:V)(K:List O->R):wrO s b 4 [(v,true)] K=K (s.set b (.box (boxM M v true))):=af6 h (Nat.le_of_ble_eq_true rfl) K
end
theorem rdTM4 {s:List O}{b:Nat}{M:MV}{gv:V}(h:s[b]? =some (.box (boxM M gv true)))(K1:V->R)(K2:V->List O->R):rdT s b 4 K1 K2=K2 gv (s.set b (.box (boxM M gv false))):=by
 unfold rdT
 rw [h]
 rfl
structure PT (s:List O)(m:Nat)(M:MV)(lg:List By)(gv:V)(c:CV)(r:Nat)(T:TX):Prop where
 tx:TxC s c r T
 mb:s[m]? =some (.box (boxM M gv true))
 lg:isL 1 (aa1 lg) gv
 nb:m≠T.b
 nr:m≠r
 rl:r<s.length
def Fr (s s':List O)(ids:List Nat):Prop:=s.length<=s'.length/\∀i,i<s.length->i∉ids->s'[i]? =s[i]?
theorem Fr.refl (s:List O)(ids:List Nat):Fr s s ids:=⟨Nat.le_refl _,fun _ _ _=>rfl⟩
def Step (s:List O)(m:Nat)(M:MV)(r:Nat)(s':List O)(lg':List By)(T':TX):Prop:=∃gv c r',PT s' m M lg' gv c r' T'/\Fr s s' [m,T'.b,T'.q,r]/\(r'=r∨s.length<=r')
theorem PT.step {s:List O}{m:Nat}{M:MV}{lg:List By}{gv:V}{c:CV}{r:Nat}{T:TX}(h:PT s m M lg gv c r T):Step s m M r s lg T:=⟨gv,c,r,h,Fr.refl _ _,.inl rfl⟩
theorem PT.box {s:List O}{m:Nat}{M:MV}{lg:List By}{gv:V}{c:CV}{r:Nat}{T:TX}(h:PT s m M lg gv c r T):s[T.b]? =some (.box (boxC c T)):=h.tx.box
theorem PT.put {s:List O}{m:Nat}{M:MV}{lg:List By}{gv:V}{c:CV}{r:Nat}{T:TX}(h:PT s m M lg gv c r T){c':CV}{T':TX}(hr:CR c' T')(h1:T'.b=T.b:=by rfl)(h2:T'.q=T.q:=by rfl)(h3:T'.qt=T.qt:=by rfl)(h5:T'.rest=T.rest:=by rfl)(h6:c'.c11=c.c11:=by rfl):PT (s.set T.b (.box (boxC c' T'))) m M lg gv c' r T':=
 ⟨h.tx.put hr h1 h2 h3 h5 h6,by rw [List.getElem?_set_ne (fun e=>h.nb e.symm)];exact h.mb,h.lg,by rw [h1];exact h.nb,h.nr,by rw [List.length_set];exact h.rl⟩
theorem Fr.set (s:List O)(i:Nat)(o:O){ids:List Nat}(hi:i∈ids):Fr s (s.set i o) ids:=⟨by simp,fun j _ hn=>List.getElem?_set_ne fun e=>hn (by rw [←e];exact hi)⟩
theorem PT.putS {s:List O}{m:Nat}{M:MV}{lg:List By}{gv:V}{c:CV}{r:Nat}{T:TX}(h:PT s m M lg gv c r T){c':CV}{T':TX}(hr:CR c' T')(h1:T'.b=T.b:=by rfl)(h2:T'.q=T.q:=by rfl)(h3:T'.qt=T.qt:=by rfl)(h5:T'.rest=T.rest:=by rfl)(h6:c'.c11=c.c11:=by rfl):Step s m M r (s.set T.b (.box (boxC c' T'))) lg T':=
 ⟨gv,c',r,h.put hr h1 h2 h3 h5 h6,Fr.set s _ _ (by rw [h1];simp),.inl rfl⟩
theorem PT.add {s:List O}{m:Nat}{M:MV}{lg:List By}{gv:V}{c:CV}{r:Nat}{T:TX}(h:PT s m M lg gv c r T)(x:List O):PT (s++x) m M lg gv c r T:=by
 have hl:∀i (o:O),s[i]? =some o->(s++x)[i]? =some o:=fun i o ho=>by rw [List.getElem?_append_left (List.getElem?_eq_some_iff.1 ho).1];exact ho
 refine ⟨⟨hl _ _ h.tx.box,h.tx.cr,h.tx.rr.set fun _=>?_,?_⟩,hl _ _ h.mb,h.lg,h.nb,h.nr,by rw [List.length_append];have:=h.rl;omega⟩
 ·rw [List.getElem?_append_left h.rl]
 ·obtain ⟨k,hk⟩:=h.tx.qt
  exact ⟨k,hl _ _ hk⟩
theorem Fr.add (s x:List O)(ids:List Nat):Fr s (s++x) ids:=⟨by simp,fun j hj _=>List.getElem?_append_left hj⟩
theorem PT.addS {s:List O}{m:Nat}{M:MV}{lg:List By}{gv:V}{c:CV}{r:Nat}{T:TX}(h:PT s m M lg gv c r T)(x:List O):Step s m M r (s++x) lg T:=⟨gv,c,r,h.add x,Fr.add _ _ _,.inl rfl⟩
theorem Step.pre {s s1 s2:List O}{m:Nat}{M:MV}{r r1:Nat}{lg:List By}{T:TX}(hf:Fr s s1 [m,T.b,T.q,r])(hr:r1=r∨s.length<=r1)(h:Step s1 m M r1 s2 lg T):Step s m M r s2 lg T:=by
 obtain ⟨gv2,c2,r2,g1,⟨g2,g3⟩,g4⟩:=h
 refine ⟨gv2,c2,r2,g1,⟨Nat.le_trans hf.1 g2,fun i hi hn=>?_⟩,?_⟩
 ·rw [g3 i (Nat.lt_of_lt_of_le hi hf.1) ?_,hf.2 i hi hn]
  simp only [List.mem_cons,List.not_mem_nil,or_false,not_or] at hn ⊢
  refine ⟨hn.1,hn.2.1,hn.2.2.1,?_⟩
  rcases hr with rfl | h4
  ·exact hn.2.2.2
  ·omega
 ·rcases g4 with rfl | g4
  ·exact hr
  ·exact .inr (Nat.le_trans hf.1 g4)
theorem Fr.trans {s s1 s2:List O}{ids:List Nat}(h:Fr s s1 ids)(g:Fr s1 s2 ids):Fr s s2 ids:=⟨Nat.le_trans h.1 g.1,fun i hi hn=>by rw [g.2 i (Nat.lt_of_lt_of_le hi h.1) hn,h.2 i hi hn]⟩
theorem PT.log {s:List O}{m:Nat}{M:MV}{lg:List By}{gv:V}{c:CV}{r:Nat}{T:TX}(h:PT s m M lg gv c r T){lg':List By}{gv':V}(hg:isL 1 (aa1 lg') gv'):PT (s.set m (.box (boxM M gv' true))) m M lg' gv' c r T:=by
 refine ⟨⟨?_,h.tx.cr,h.tx.rr.set fun _=>?_,?_⟩,ad5 h.mb,hg,h.nb,h.nr,by rw [List.length_set];exact h.rl⟩
 ·rw [List.getElem?_set_ne h.nb];exact h.tx.box
 ·rw [List.getElem?_set_ne h.nr]
 ·obtain ⟨k,hk⟩:=h.tx.qt
  refine ⟨k,?_⟩
  rw [List.getElem?_set_ne]
  ·exact hk
  ·intro e;rw [←e,h.mb] at hk;cases hk
structure BT (n:Nat)(T:TX):Prop where
 res:T.res.length<=20
 wat:T.wat.length<=20
 num:0<=T.num/\T.num<100
 que:T.que.length<=n
 yes:T.yes.length<=n
 dbt:T.dbt.length<=n
 fgt:T.fgt.length<=n
 rest:(T.rest.getD []).length<=20
 nres:∀x∈T.res,x.size<=40
 nyes:∀x∈T.yes,x.size<=40
 nque:∀k∈T.que,k.2.size<=40
 qt:∀e∈T.qt,0<=e.2/\e.2<=n
end Go.Proofs.YtnpjififnhjbbaaDoor.E
set_option maxRecDepth 100000
namespace Go.Proofs.YtnpjififnhjbbaaDoor.E
open Go
def Add9 (s s1:List O)(b:Nat)(kk:Int)(x:By):Prop:=∀(K1:V->R) (K2:List O->R),rdT s b 9 K1 (fun v s'=>aL 2 v fun m e=>apK e [vA [vI kk,vS x]] 24 (wrO s' b 9 [(vL (m||!([vA [vI kk,vS x]]:List V).isEmpty) 2 (e++[vA [vI kk,vS x]]),true)] fun s''=>K2 s''))=K2 s1
theorem aP3 (b:Nat)(l:List By)(kk:Int)(Lp:Nat->List O->R)(End:List O->R)
  (hstep:∀(i:Nat) (x:By) (s s1:List O) (o:Out),l[i]? =some x->Add9 s s1 b kk x->Lp (i+1) s1=some o->Lp i s=some o) (hend:∀(s:List O) (o:Out),End s=some o->Lp l.length s=some o):
  ∀(k i:Nat) (s:List O) (c:CV) (T:TX),i+k=l.length->T.b=b->s[T.b]? =some (.box (boxC c T))->CR c T->T.que.length+k<=1000000 ->
  ∃c',CR c' {T with que:=T.que++(l.drop i).map fun x=>(kk,x)}/\c'.c11=c.c11/\∀o,End (s.set T.b (.box (boxC c' {T with que:=T.que++(l.drop i).map fun x=>(kk,x)})))=some o->Lp i s=some o
 | 0,i,s,c,T,hi,_,hb,hc,hq=>by
  obtain rfl:i=l.length:=by omega
  rw [List.drop_length]
  refine ⟨c,by simpa using hc,rfl,fun o ho=>?_⟩
  simp only [List.map_nil,List.append_nil,ab7 hb] at ho
  exact hend s o ho
 | k+1,i,s,c,T,hi,e,hb,hc,hq=>by
  obtain ⟨x,hx⟩:=getL (l:=l) (i:=i) (by omega)
  obtain ⟨v,hv,e9⟩:=appC9 hb hc (kk,x) (by omega)
  obtain ⟨c',g1,g2,g3⟩:=aP3 b l kk Lp End hstep hend k (i+1) (s.set T.b (.box (boxC {c with c9:=v} {T with que:=T.que++[(kk,x)]}))) {c with c9:=v} {T with que:=T.que++[(kk,x)]} (by omega) e (ad5 hb) ⟨hc.h0,hc.h1,hc.h8,hv,hc.h10,hc.h12,hc.n0⟩ (by simp;omega)
  rw [am8 hx]
  simp only [List.append_assoc,ak0] at g1 g3
  exact ⟨c',g1,g2,fun o ho=>hstep i x s _ o hx (by rw [←e];exact e9) (g3 o ho)⟩
theorem prep_L5 {mm:Bool}{s:List O}{c:CV}{T:TX}(hb:s[T.b]? =some (.box (boxC c T)))(hc:CR c T)(hl:T.yes.length<=400000)(hq:T.que.length<=400000):∃c',CR c' {T with que:=T.que++T.yes.map fun x=>(3,x)}/\c'.c11=c.c11/\aa5.L5 RZ T.b 0 mm (aa1 T.yes) T.yes.length z0 s=some (.ret [vB true] (s.set T.b (.box (boxC c' {T with que:=T.que++T.yes.map fun x=>(3,x)})))):=by
 obtain ⟨c',h1,h2,h3⟩:=aP3 T.b T.yes 3 (fun i s=>aa5.L5 RZ T.b 0 mm (aa1 T.yes) T.yes.length i s) (fun s=>some (.ret [vB true] s)) (fun i x s s1 o hx ha ho=>by
   have hi:=(List.getElem?_eq_some_iff.1 hx).1
   have J6:aa5.J6 RZ T.b 0 mm (aa1 T.yes) T.yes.length i s1=some o:=by
    apply aa5.br7
    unfold aa5.J6b
    rw [w6_1 (by omega)];exact ho
   apply aa5.L5_of
   unfold aa5.L5b
   rw [ah8 hi]
   simp only [cond_true,aj3 hx,V.cells,aC_v,aS_v,aN_v,Nat.reduceAdd]
   exact (ha _ _).trans J6) (fun s o ho=>by
   apply aa5.L5_of
   unfold aa5.L5b
   rw [ag2];exact ho) T.yes.length 0 s c T (by omega) rfl hb hc (by omega)
 exact ⟨c',h1,h2,h3 _ rfl⟩
theorem prep_L1 {mm:Bool}{m:Nat}{s:List O}{c:CV}{T:TX}(hb:s[T.b]? =some (.box (boxC c T)))(hc:CR c T)(hl:T.res.length<=400000)(hne:T.res≠[])(hq:T.que.length<=400000):∃c',CR c' {T with que:=T.que++T.res.map fun x=>(2,x)}/\c'.c11=c.c11/\aa5.L1 RZ m 0 T.b 0 mm (aa1 T.res) T.res.length z0 s=some (.ret [vB true] (s.set T.b (.box (boxC c' {T with que:=T.que++T.res.map fun x=>(2,x)})))):=by
 obtain ⟨c',h1,h2,h3⟩:=aP3 T.b T.res 2 (fun i s=>aa5.L1 RZ m 0 T.b 0 mm (aa1 T.res) T.res.length i s) (fun s9=>rd1 s9 T.b 0 fun v22=>aL 1 v22 fun _ e24=>bif (decide (((e24).length:Int)>0)) then retR [(vB true)] s9 else aa5.J3 RZ m 0 T.b 0 s9) (fun i x s s1 o hx ha ho=>by
   have hi:=(List.getElem?_eq_some_iff.1 hx).1
   have J6:aa5.J2 RZ m 0 T.b 0 mm (aa1 T.res) T.res.length i s1=some o:=by
    apply aa5.ar1
    unfold aa5.J2b
    rw [w6_1 (by omega)];exact ho
   apply aa5.bd6
   unfold aa5.L1b
   rw [ah8 hi]
   simp only [cond_true,aj3 hx,V.cells,aC_v,aS_v,aN_v,Nat.reduceAdd]
   exact (ha _ _).trans J6) (fun s o ho=>by
   apply aa5.bd6
   unfold aa5.L1b
   rw [ag2];exact ho) T.res.length 0 s c T (by omega) rfl hb hc (by omega)
 refine ⟨c',h1,h2,h3 _ ?_⟩
 obtain ⟨nn,a0,e0⟩:=h1.h0.aL
 rw [rdC0 (ad5 hb),e0,ab9]
 rw [show decide (((T.res.length:Nat):Int)>0)=true from by
  rw [decide_eq_true_iff]
  have:=List.length_pos_iff.2 hne
  omega]
 rfl
theorem bg5 {a b:Nat}(h:a<=b)(x:R):ck (Nat.ble a b) x=x:=ck_t (Nat.ble_eq_true_of_le h) x
theorem prep_J3 {m:Nat}{M:MV}{s:List O}{lg:List By}{gv:V}{c:CV}{r n:Nat}{T:TX}(h:PT s m M lg gv c r T)(hB:BT n T)(hn:n<=20000)(hlg:lg.length<=100000):∃s',aa5.J3 RZ m 0 T.b 0 s=some (.ret [vB true] s')/\Step s m M r s' (lg++cmtL T) (cmtT T):=by
 have hq:=hB.que
 have hy:=hB.yes
 have h1:=h.put (T':={T with st:=4}) (c':=c) ⟨h.tx.cr.h0,h.tx.cr.h1,h.tx.cr.h8,h.tx.cr.h9,h.tx.cr.h10,h.tx.cr.h12,h.tx.cr.n0⟩
 obtain ⟨n10,a10,e10⟩:=h.tx.cr.h10.aL
 have J4:∀{lg':List By} {gv':V} {c':CV} {r':Nat} {s2:List O} {T2:TX},PT s2 m M lg' gv' c' r' T2->T2.b=T.b->T2.yes=T.yes->T2.que=T.que->∃s',aa5.J4 RZ T.b 0 s2=some (.ret [vB true] s')/\Step s2 m M r' s' lg' {T2 with que:=T2.que++T2.yes.map fun x=>(3,x)}:=by
  intro lg' gv' c' r' s2 T2 h2 hb hye hqe
  obtain ⟨n2,a2,e2⟩:=h2.tx.cr.h10.aL
  obtain ⟨c3,g1,g2,g3⟩:=prep_L5 (mm:=n2) h2.box h2.tx.cr (by rw [hye];omega) (by rw [hqe];omega)
  refine ⟨_,?_,h2.putS g1 rfl rfl rfl rfl g2⟩
  apply aa5.aH9
  unfold aa5.J4b
  simp only [Nat.reduceAdd]
  rw [←hb,bu6 h2.box,e2,ab9]
  exact g3
 cases hyes:T.yes with
 | nil=>
  obtain ⟨s',g1,g2⟩:=J4 h1 rfl rfl rfl
  refine ⟨s',?_,?_⟩
  ·apply aa5.aB4
   unfold aa5.J3b
   simp only [Nat.reduceAdd]
   rw [wrC4 h.box,bu6 h1.box,e10,hyes]
   exact g1
  ·have e1:cmtL T=[]:=by unfold cmtL;rw [hyes]
   have e2:cmtT T= {T with st:=4,que:=T.que++T.yes.map fun x=>(3,x)}:=by unfold cmtT;rw [hyes];simp
   rw [e1,e2,List.append_nil]
   exact Step.pre (Fr.set s _ _ (by simp)) (.inl rfl) g2
 | cons y ys=>
  have hne:T.yes≠[]:=by rw [hyes];simp
  have hnn:n10=true:=a10 (by unfold aa1;simpa using hne)
  obtain ⟨n4,a4,e4⟩:=h.lg.aL
  have hg:isL 1 (aa1 (lg++[cmtB T.num T.yes])) (.list (n4||!([vS (cmtB T.num T.yes)]:List V).isEmpty) 1 (aa1 lg++[vS (cmtB T.num T.yes)])):=by rw [←ak9];exact aG8
  have h2:=h1.log hg
  have h3:=h2.put (T':={T with st:=4,lgd:=true}) (c':=c) ⟨h.tx.cr.h0,h.tx.cr.h1,h.tx.cr.h8,h.tx.cr.h9,h.tx.cr.h10,h.tx.cr.h12,h.tx.cr.n0⟩
  obtain ⟨s',g1,g2⟩:=J4 h3 rfl rfl rfl
  have hs1:=aR7 hB.num
  have hs2:=by0 hB.nyes
  have mb26:((s.set T.b (.box (boxC c {T with st:=4}))).set m (.box (boxM M gv false)))[m]? =some (.box (boxM M gv false)):=ad5 h1.mb
  have bb26:((s.set T.b (.box (boxC c {T with st:=4}))).set m (.box (boxM M gv false)))[T.b]? =some (.box (boxC c {T with st:=4})):=by rw [List.getElem?_set_ne h.nb];exact h1.box
  have hno:ac0 [vL n10 1 (aa1 T.yes),vS (⟨#[32]⟩:By)]=true:=by simp [ac0,aj2,ag7]
  have ap:∀K:R,apK (aa1 lg) [vS (cmtB T.num T.yes)] 16 K=K:=fun K=>by
   unfold apK
   rw [ck_t (by rw [ab9];simp only [List.length_cons,List.length_nil,Bool.and_eq_true,Nat.ble_eq];omega)]
  have hc1:∀x:R,ck (Nat.ble ((⟨#[99,111,109,109,105,116,32]⟩:By).size+(aG7 T.num).size) 9223372036854775807) x=x:=bg5 (by rw [show (⟨#[99,111,109,109,105,116,32]⟩:By).size=7 from rfl];omega)
  have hc2:∀x:R,ck (Nat.ble (((⟨#[99,111,109,109,105,116,32]⟩:By)++aG7 T.num).size+(⟨#[32]⟩:By).size) 9223372036854775807) x=x:=bg5 (by rw [aH7,show (⟨#[99,111,109,109,105,116,32]⟩:By).size=7 from rfl,show (⟨#[32]⟩:By).size=1 from rfl];omega)
  have hc3:∀x:R,ck (Nat.ble ((((⟨#[99,111,109,109,105,116,32]⟩:By)++aG7 T.num)++(⟨#[32]⟩:By)).size+(by1 T.yes).size) 9223372036854775807) x=x:=bg5 (by rw [aH7,aH7,show (⟨#[99,111,109,109,105,116,32]⟩:By).size=7 from rfl,show (⟨#[32]⟩:By).size=1 from rfl];omega)
  have hcm:(((⟨#[99,111,109,109,105,116,32]⟩:By)++aG7 T.num)++(⟨#[32]⟩:By))++by1 T.yes=cmtB T.num T.yes:=rfl
  refine ⟨s',?_,?_⟩
  ·apply aa5.aB4
   unfold aa5.J3b
   simp only [Nat.reduceAdd]
   rw [wrC4 h.box,bu6 h1.box,e10,bc4 (by rw [ab9,hyes];simp)]
   simp only [rdTM4 h1.mb,e4,rdC2 h1.box,rdC2 bb26,bu6 h1.box,bu6 bb26,e10,aI_v,bh8 hB.num,cP_S,aS_v,hc1,hc2,hc3,ck_t hno,Join_is hnn (by omega) hB.nyes,hcm,ap,wrM4 mb26,ak0,wrC14 h2.box]
   simp only [as4,aw0]
   exact g1
  ·have e1:cmtL T=[cmtB T.num T.yes]:=by unfold cmtL;rw [hyes]
   have e2:cmtT T= {T with st:=4,lgd:=true,que:=T.que++T.yes.map fun x=>(3,x)}:=by unfold cmtT;rw [hyes];simp
   rw [e1,e2]
   exact Step.pre (((Fr.set s _ _ (by simp)).trans (Fr.set _ _ _ (by simp))).trans (Fr.set _ _ _ (by simp))) (.inl rfl) g2
end Go.Proofs.YtnpjififnhjbbaaDoor.E
set_option maxRecDepth 100000
namespace Go.Proofs.YtnpjififnhjbbaaDoor.E
open Go
theorem RR_none {s:List O}{b r:Nat}{v:V}{l:List V}(h:isL 1 l v)(hn:nilS v=some true):RR s b r none v:=by
 rcases h with ⟨nn,rfl,h2⟩ | ⟨_,k,rfl⟩
 ·cases nn with
  | true=>cases hn
  | false=>
   have:l=[]:=Classical.byContradiction fun e=>by cases h2 e
   subst this
   exact ⟨1,rfl⟩
 ·exact ⟨k,rfl⟩
theorem PT.cloned {s:List O}{m:Nat}{M:MV}{lg:List By}{gv:V}{c:CV}{r:Nat}{T:TX}(h:PT s m M lg gv c r T){l:List By}(hne:l≠[]):PT ((s++[aF6 l]).set T.b (.box (boxC {c with c11:=.slo s.length 0 1 l.length l.length,f11:=false} T))) m M lg gv {c with c11:=.slo s.length 0 1 l.length l.length,f11:=false} s.length {T with rest:=some l}/\Fr s ((s++[aF6 l]).set T.b (.box (boxC {c with c11:=.slo s.length 0 1 l.length l.length,f11:=false} T))) [m,T.b,T.q,r]:=by
 have ha:=h.add [aF6 l]
 have hbl:=(List.getElem?_eq_some_iff.1 h.tx.box).1
 have hml:=(List.getElem?_eq_some_iff.1 h.mb).1
 refine ⟨⟨⟨ad5 ha.tx.box,⟨h.tx.cr.h0,h.tx.cr.h1,h.tx.cr.h8,h.tx.cr.h9,h.tx.cr.h10,h.tx.cr.h12,h.tx.cr.n0⟩,⟨?_,.inr ⟨by show s.length≠T.b;omega,l.length,rfl⟩⟩,?_⟩,?_,h.lg,h.nb,by omega,by simp⟩,(Fr.add _ _ _).trans (Fr.set _ _ _ (by simp))⟩
 ·exact SL_new.set fun id c e=>by injection e with e;subst e;rw [List.getElem?_set_ne (by omega)]
 ·obtain ⟨k,hk⟩:=ha.tx.qt
  exact ⟨k,by rw [List.getElem?_set_ne h.tx.ne];exact hk⟩
 ·rw [List.getElem?_set_ne (fun e=>h.nb e.symm)];exact ha.mb
theorem prepared_is {m:Nat}{M:MV}{s:List O}{lg:List By}{gv:V}{c:CV}{r n:Nat}{T:TX}(h:PT s m M lg gv c r T)(hB:BT n T)(hn:n<=20000)(hlg:lg.length<=100000):∃s',RZ.R am7 [vO m 0,vO T.b 0] s=some (.ret [vB true] s')/\Step s m M r s' (lg++au0 T) (aj1 T):=by
 have hq:=hB.que
 have hr:=hB.res
 obtain ⟨n0,a0,z0',e0⟩:=h.tx.cr.h0.aLn
 have hnil:=h.tx.rr.nil
 have hn0:n0= !T.res.isEmpty:=by
  have:=h.tx.cr.n0
  rw [z0'] at this
  injection this with this
  rw [←this,Bool.not_not]
 have start:∀s',(aa5.J0 RZ m 0 T.b 0 (T.rest.isNone&&((T.res.length:Int)==1)) s=some (.ret [vB true] s'))->RZ.R am7 [vO m 0,vO T.b 0] s=some (.ret [vB true] s'):=by
  intro s' hJ
  apply aa5.b_of
  unfold aa5.b
  simp only [Nat.reduceAdd]
  rw [be5 h.box,hnil,Option.bind_some]
  cases hx:T.rest.isNone with
  | true=>
   rw [hx] at hJ
   rw [cond_true,rdC0 h.box,e0,ab9]
   exact hJ
  | false=>rw [hx] at hJ;exact hJ
 have toJ3:T.rest≠none->∀s',aa5.J3 RZ m 0 T.b 0 s=some (.ret [vB true] s')->RZ.R am7 [vO m 0,vO T.b 0] s=some (.ret [vB true] s'):=by
  intro hne s' hJ
  have hx:T.rest.isNone=false:=by cases hr:T.rest with | none=>exact absurd hr hne | some l=>rfl
  apply start
  rw [hx,Bool.false_and]
  apply aa5.am9
  unfold aa5.J0b
  simp only [Nat.reduceAdd]
  rw [cond_false,be5 h.box,hnil,Option.bind_some,hx,cond_false]
  exact hJ
 cases hrest:T.rest with
 | some l=>
  obtain ⟨s',g1,g2⟩:=prep_J3 h hB hn hlg
  refine ⟨s',toJ3 (by rw [hrest];simp) s' g1,?_⟩
  have e1:au0 T=cmtL T:=by unfold au0;rw [hrest]
  have e2:aj1 T=cmtT T:=by unfold aj1;rw [hrest]
  rw [e1,e2];exact g2
 | none=>
  cases hres:T.res with
  | nil=>
   obtain ⟨v',w1,w2,w3⟩:=(aK0 (v:=vL n0 1 (aa1 T.res)) (l:=T.res) (s:=s) (isLn a0) (by omega)).2 hres
   have hnv:nilS v'=some true:=by rw [w2,hn0,hres];rfl
   have hp:PT (s.set T.b (.box (boxC {c with c11:=v',f11:=nilB v'} T))) m M lg gv {c with c11:=v',f11:=nilB v'} r T:=by
    refine ⟨⟨ad5 h.box,⟨h.tx.cr.h0,h.tx.cr.h1,h.tx.cr.h8,h.tx.cr.h9,h.tx.cr.h10,h.tx.cr.h12,h.tx.cr.n0⟩,by rw [hrest];exact RR_none w1 hnv,?_⟩,by rw [List.getElem?_set_ne (fun e=>h.nb e.symm)];exact h.mb,h.lg,h.nb,h.nr,by rw [List.length_set];exact h.rl⟩
    obtain ⟨k,hk⟩:=h.tx.qt
    exact ⟨k,by rw [List.getElem?_set_ne h.tx.ne];exact hk⟩
   obtain ⟨s',g1,g2⟩:=prep_J3 hp hB hn hlg
   refine ⟨s',start s' ?_,?_⟩
   ·rw [hres]
    show aa5.J0 RZ m 0 T.b 0 (T.rest.isNone&&false) s=_
    rw [Bool.and_false]
    apply aa5.am9
    unfold aa5.J0b
    simp only [Nat.reduceAdd]
    rw [cond_false,be5 h.box,hnil,Option.bind_some,hrest]
    simp only [Option.isNone_none,cond_true]
    rw [rdC0 h.box,e0,cS_v w3,ck_t w1.good,bp2 h.box,rdC0 hp.box,e0,hres]
    apply aa5.bd6
    unfold aa5.L1b
    simp only [Nat.reduceAdd]
    rw [show decide (z0<(((aa1 []).length:Nat):Int))=false from rfl,cond_false,rdC0 hp.box,e0,hres]
    rw [show decide ((((aa1 []).length:Nat):Int)>0)=false from rfl,cond_false]
    exact g1
   ·have e1:au0 T=cmtL T:=by unfold au0;rw [hrest,hres]
    have e2:aj1 T=cmtT T:=by unfold aj1;rw [hrest,hres]
    rw [e1,e2]
    exact Step.pre (Fr.set s _ _ (by unfold cmtT;simp)) (.inl rfl) g2
  | cons a l=>
   cases l with
   | nil=>
    have hR:∀s,RR s T.b r (some []) (.list true 1 []):=fun s=>⟨.inl aV8,.inl ⟨rfl,rfl⟩⟩
    have hc':CR {c with c11:=.list true 1 [],f11:=true,c9:=.list true 2 (as7 [(5,a)])} {T with rest:=some [],que:=[(5,a)]}:=⟨h.tx.cr.h0,h.tx.cr.h1,h.tx.cr.h8,aV8,h.tx.cr.h10,h.tx.cr.h12,h.tx.cr.n0⟩
    refine ⟨s.set T.b (.box (boxC {c with c11:=.list true 1 [],f11:=true,c9:=.list true 2 (as7 [(5,a)])} {T with rest:=some [],que:=[(5,a)]})),start _ ?_,?_⟩
    ·rw [hrest,hres]
     apply aa5.am9
     unfold aa5.J0b
     simp only [Nat.reduceAdd]
     rw [show ((none:Option (List By)).isNone&&((([a]:List By).length:Int)==1))=true from rfl,cond_true,bp2 h.box,rdC0 (ad5 h.box),e0,hres]
     show wrO _ T.b 9 _ _=_
     rw [wrC9 (ad5 h.box),ak0]
     rfl
    ·have e1:au0 T=[]:=by unfold au0;rw [hrest,hres]
     have e2:aj1 T= {T with rest:=some [],que:=[(5,a)]}:=by unfold aj1;rw [hrest,hres]
     rw [e1,e2,List.append_nil]
     refine ⟨gv,_,r,⟨⟨ad5 h.box,hc',hR _,?_⟩,by rw [List.getElem?_set_ne (fun e=>h.nb e.symm)];exact h.mb,h.lg,h.nb,h.nr,by rw [List.length_set];exact h.rl⟩,Fr.set s _ _ (by simp),.inl rfl⟩
     obtain ⟨k,hk⟩:=h.tx.qt
     exact ⟨k,by rw [List.getElem?_set_ne h.tx.ne];exact hk⟩
   | cons a2 l=>
    have hne:T.res≠[]:=by rw [hres];simp
    have w:=(aK0 (v:=vL n0 1 (aa1 T.res)) (l:=T.res) (s:=s) (isLn a0) (by omega)).1 hne
    obtain ⟨hp,hf⟩:=h.cloned hne
    obtain ⟨c3,g1,g2,g3⟩:=prep_L1 (mm:=n0) (m:=m) hp.box hp.tx.cr (by show T.res.length<=_;omega) hne (by show T.que.length<=_;omega)
    have g4:=hp.putS g1 rfl rfl rfl rfl g2
    have hJ:∀o,aa5.L1 RZ m 0 T.b 0 n0 (aa1 T.res) T.res.length z0 ((s++[aF6 T.res]).set T.b (.box (boxC {c with c11:=.slo s.length 0 1 T.res.length T.res.length,f11:=false} T)))=some o->aa5.J0 RZ m 0 T.b 0 (T.rest.isNone&&((T.res.length:Int)==1)) s=some o:=by
     intro o ho
     rw [hrest,hres]
     rw [show ((none:Option (List By)).isNone&&(((a::a2::l).length:Int)==1))=false from by
      rw [Option.isNone_none,Bool.true_and,beq_eq_false_iff_ne]
      simp only [List.length_cons];omega]
     apply aa5.am9
     unfold aa5.J0b
     simp only [Nat.reduceAdd]
     rw [cond_false,be5 h.box,hnil,Option.bind_some,hrest]
     simp only [Option.isNone_none,cond_true]
     rw [rdC0 h.box,e0,cS_v w,ck_t (show V.good (V.slo s.length 0 1 T.res.length T.res.length)=true from rfl),show nilB (V.slo s.length 0 1 T.res.length T.res.length)=false from rfl,bp2 (h.add [aF6 T.res]).box,rdC0 hp.box,e0,ab9]
     exact ho
    refine ⟨_,start _ (hJ _ g3),?_⟩
    have e1:au0 T=[]:=by unfold au0;rw [hrest,hres]
    have e2:aj1 T= {T with rest:=some T.res,que:=T.que++T.res.map fun x=>(2,x)}:=by unfold aj1;rw [hrest,hres]
    rw [e1,e2,List.append_nil]
    exact Step.pre hf (.inr (Nat.le_refl _)) g4
end Go.Proofs.YtnpjififnhjbbaaDoor.E
