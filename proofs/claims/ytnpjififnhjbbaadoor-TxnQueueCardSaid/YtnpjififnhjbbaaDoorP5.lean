/- It is proved that the plain model and the reference tell the same, and what the law's awake comes to. No condition beyond the lemmas' own. -/
import Derived.Test.YtnpjififnhjbbaaDoorP4
set_option maxRecDepth 100000
namespace Go.Proofs.YtnpjififnhjbbaaDoor.E
open Go
def gQ (X:TX)(lg:List By)(r:List Int):Rs:=mgrQ (setT 4 X) (lg++setL 4 X) r
theorem ba2 {T:TX}(h:T.que≠[]):∀f,setL f T=[]
 | 0=>rfl
 | f+1=>by
  unfold setL
  split
  ·rename_i hq;exact absurd hq h
  ·rfl
theorem aW9 {T:TX}(h:T.st≠3/\T.st≠4/\T.st≠5):∀f,setL f T=[]
 | 0=>rfl
 | f+1=>by
  unfold setL
  split
  ·rw [if_neg h.1,if_neg (by omega)]
  ·rfl
theorem bt7 {T:TX}(h:T.que=[])(h3:T.st=3)(f:Nat):setL (f+1) T=au0 T++setL f (aj1 T):=by
 rw [show setL (f+1) T=match T.que with | []=>if T.st=3 then au0 T++setL f (aj1 T) else if T.st=4∨T.st=5 then endL T++setL f (endT T) else [] | _=>[] from rfl,h];simp only [h3,if_true]
theorem be2 {T:TX}(h:T.que=[])(h4:T.st=4∨T.st=5)(f:Nat):setL (f+1) T=endL T++setL f (endT T):=by
 rw [show setL (f+1) T=match T.que with | []=>if T.st=3 then au0 T++setL f (aj1 T) else if T.st=4∨T.st=5 then endL T++setL f (endT T) else [] | _=>[] from rfl,h];simp only [show T.st≠3 by omega,if_false,h4,if_true]
theorem bt5 {T:TX}:∀{f:Nat},fin (setT f T)->setT (f+1) T=setT f T/\setL (f+1) T=setL f T:=by
 intro f
 induction f generalizing T with
 | zero=>
  intro h
  have h:fin T:=h
  rcases h with h | h
  ·exact ⟨aA8 h 1,ba2 h 1⟩
  ·exact ⟨aE4 h 1,aW9 h 1⟩
 | succ f ih=>
  intro h
  by_cases hq:T.que=[]
  ·by_cases h3:T.st=3
   ·rw [aQ6 hq h3] at h
    rw [aQ6 hq h3,aQ6 hq h3,bt7 hq h3,bt7 hq h3,(ih h).1,(ih h).2];exact ⟨rfl,rfl⟩
   ·by_cases h45:T.st=4∨T.st=5
    ·rw [aB9 hq h45] at h
     rw [aB9 hq h45,aB9 hq h45,be2 hq h45,be2 hq h45,(ih h).1,(ih h).2];exact ⟨rfl,rfl⟩
    ·have hs:T.st≠3/\T.st≠4/\T.st≠5:=by omega
     rw [aE4 hs,aE4 hs,aW9 hs,aW9 hs];exact ⟨rfl,rfl⟩
  ·rw [aA8 hq,aA8 hq,ba2 hq,ba2 hq];exact ⟨rfl,rfl⟩
theorem gQ_q {X:TX}(h:X.que≠[])(lg:List By)(r:List Int):gQ X lg r=mgrQ X lg r:=by
 unfold gQ;rw [aA8 h,ba2 h,List.append_nil]
theorem aY3 {X:TX}{k:Int×By}{l:List (Int×By)}(h:X.que=k::l)(lg:List By):gQ X lg []=.stop k lg:=by
 rw [gQ_q (by rw [h];simp)]
 show (match X.que with | []=>_ | k::_=>Rs.stop k lg)=_
 rw [h]
theorem aS3 {X:TX}{k:Int×By}{l:List (Int×By)}(h:X.que=k::l)(lg:List By)(a:Int)(r:List Int):gQ X lg (a::r)=gQ (aj5 k a (popT X)) lg r:=by
 rw [gQ_q (by rw [h];simp)]
 show (match X.que with | []=>_ | _::_=>mgrQ (as5 a X) (lg++ax7 a X) r)=_
 rw [h]
 simp only
 unfold as5 ax7
 rw [h]
 rfl
theorem pha_A :∀(r:List Int) (w:List By) (T:TX) (lg:List By) (E:En),(T.st≠3/\T.st≠4/\T.st≠5)->T.que=w.map (fun s=>(7,s))->T.com=E.com->T.mix=E.mix->T.haz=E.haz->T.dbt=E.dbt->mgrQ T lg r=aftQ lg w E r
 | r,[],T,lg,E,h,hq,h1,h2,h3,h4=>by
  have hq:T.que=[]:=hq
  cases r with
  | nil=>show (match T.que with | []=>Rs.over T.com T.mix T.haz T.dbt lg | k::_=>Rs.stop k lg)=_;rw [hq,h1,h2,h3,h4];rfl
  | cons a r=>show (match T.que with | []=>Rs.over T.com T.mix T.haz T.dbt lg | _::_=>_)=_;rw [hq,h1,h2,h3,h4];rfl
 | [],s::w,T,lg,E,h,hq,h1,h2,h3,h4=>by
  show (match T.que with | []=>_ | k::_=>Rs.stop k lg)=_
  rw [hq];rfl
 | a::r,s::w,T,lg,E,h,hq,h1,h2,h3,h4=>by
  have hq':T.que=(7,s)::w.map (fun s=>((7:Int),s)):=hq
  rw [←gQ_q (X:=T) (by rw [hq'];simp),aS3 hq']
  have ht:aj5 (7,s) a (popT T)=popT T:=rfl
  rw [ht]
  unfold gQ
  have hst:(popT T).st≠3/\(popT T).st≠4/\(popT T).st≠5:=h
  rw [aE4 hst,aW9 hst,List.append_nil]
  exact pha_A r w (popT T) lg E h (by show T.que.tail=_;rw [hq'];rfl) h1 h2 h3 h4
def aN8 (X:TX)(lg:List By)(mix haz:Bool)(dbt:List By):Kq:=aftQ (lg++if X.lgd=true/\dbt=[] then [endB X.num] else []) X.wat {com:=X.st==4,mix,haz,dbt}
theorem gQ_end {X:TX}(hq:X.que=[])(h45:X.st=4∨X.st=5)(hf:X.fgt=[])(lg:List By)(r:List Int):gQ X lg r=aN8 X lg X.mix X.haz X.dbt r:=by
 unfold gQ aN8
 have hs:=bm0 (T:=X) hf
 rw [aB9 hq h45,be2 hq h45,aE4 hs,aW9 hs,List.append_nil]
 have hl:endL X=if X.lgd=true/\X.dbt=[] then [endB X.num] else []:=by unfold endL;rw [hf]
 rw [hl]
 have he:endT X= {X with com:=X.st==4,st:=if X.st=4 then 6 else 7,que:=X.que++X.wat.map fun s=>(7,s)}:=by unfold endT;rw [hf]
 rw [he] at hs ⊢
 refine pha_A r X.wat _ _ _ hs ?_ rfl rfl rfl rfl
 show X.que++_=_
 rw [hq];rfl
theorem gQ_fgt {X:TX}(hq:X.que=[])(h45:X.st=4∨X.st=5)(lg:List By)(r:List Int):gQ X lg r=gQ {X with que:=(X.res.filter fun s=>hasS s X.fgt).map (fun s=>(6,s)),fgt:=[]} lg r:=by
 by_cases hf:X.fgt=[]
 ·have e:({X with que:=(X.res.filter fun s=>hasS s X.fgt).map (fun s=>(6,s)),fgt:=[]}:TX)=X:=by
   rw [hf]
   have:(X.res.filter fun s=>hasS s [])=[]:=by rw [List.filter_eq_nil_iff];intro x _;simp [hasS]
   rw [this,List.map_nil,←hq]
   cases X;simp_all
  rw [e]
 ·have he:endT X= {X with que:=X.que++(X.res.filter fun s=>hasS s X.fgt).map (fun s=>(6,s)),fgt:=[]}:=by
   unfold endT;split<;>first | (rename_i e;exact absurd e hf) | rfl
  rw [hq,List.nil_append] at he
  have hl:endL X=[]:=by unfold endL;split<;>first | (rename_i e;exact absurd e hf) | rfl
  unfold gQ
  rw [aB9 hq h45,be2 hq h45,hl,he,List.nil_append]
  have hfin:fin (setT 3 ({X with que:=(X.res.filter fun s=>hasS s X.fgt).map (fun s=>(6,s)),fgt:=[]}:TX)):=bk5 (fin2 h45)
  rw [(bt5 hfin).1,(bt5 hfin).2]
theorem bf8 {k j:Int×By}(m:Int)(hx:j≠k):∀l,getQ j (putQ k m l)=getQ j l
 | []=>by unfold putQ;rw [show getQ j [(k,m)]=if j=k then m else getQ j [] from rfl,if_neg hx]
 | (i,n)::r=>by
  rw [show putQ k m ((i,n)::r)=if k=i then (i,m)::r else (i,n)::putQ k m r from rfl]
  by_cases h:k=i
  ·rw [if_pos h,show getQ j ((i,m)::r)=if j=i then m else getQ j r from rfl,show getQ j ((i,n)::r)=if j=i then n else getQ j r from rfl,if_neg (by rw [←h];exact hx),if_neg (by rw [←h];exact hx)]
  ·rw [if_neg h,show getQ j ((i,n)::putQ k m r)=if j=i then n else getQ j (putQ k m r) from rfl,show getQ j ((i,n)::r)=if j=i then n else getQ j r from rfl,bf8 m hx r]
theorem q_mem {q:List (By×Nat)}{n:By}{c:Nat}(h:(n,c)∈q):n∈q.map (·.1):=List.mem_map.2 ⟨_,h,rfl⟩
theorem pha_F :∀(r:List Int) (q:List (By×Nat)) (got:List (By×Int)) (X:TX) (lg:List By),(X.st=4∨X.st=5)->X.fgt=[]->X.que=q.map (fun e=>(6,e.1))->(∀e∈q,getQ (6,e.1) X.qt=e.2)->(q.map (·.1)).Nodup->gQ X lg r=az0 lg 6 2 (fun _ dbt r=>aN8 X lg X.mix X.haz dbt r) r q got X.dbt
 | r,[],got,X,lg,h45,hf,hq,hc,hn=>by
  rw [gQ_end hq h45 hf]
  cases r<;>rfl
 | [],(n,c)::q,got,X,lg,h45,hf,hq,hc,hn=>aY3 hq lg
 | a::r,(n,c)::q,got,X,lg,h45,hf,hq,hc,hn=>by
  have hq':X.que=(6,n)::q.map (fun e=>((6:Int),e.1)):=hq
  rw [aS3 hq']
  have hcn:getQ (6,n) X.qt=c:=hc (n,c) (List.mem_cons_self ..)
  rw [List.map_cons,List.nodup_cons] at hn
  have hpop:(popT X).que=q.map (fun e=>((6:Int),e.1)):=by show X.que.tail=_;rw [hq'];rfl
  have ht:aj5 (6,n) a (popT X)=if a=2 then silT (6,n) (popT X) else popT X:=by
   unfold aj5;rw [if_neg (by simp),if_neg (by simp),if_neg (by simp),if_neg (by simp),if_pos rfl]
  rw [ht]
  show _=if a≠2 then az0 lg 6 2 _ r q (putG n a got) X.dbt else if c+1<20 then az0 lg 6 2 _ r (q++[(n,c+1)]) got X.dbt else az0 lg 6 2 _ r q got (bif hasS n X.dbt then X.dbt else X.dbt++[n])
  by_cases h2:a=2
  ·rw [if_pos h2,if_neg (by simp [h2])]
   have hcnt:∀e∈q,getQ (6,e.1) (putQ (6,n) (getQ (6,n) X.qt+1) X.qt)=e.2:=by
    intro e he
    rw [bf8]
    ·exact hc e (List.mem_cons_of_mem _ he)
    ·intro h3
     injection h3 with _ h3
     exact hn.1 (by rw [←h3];exact q_mem (c:=e.2) he)
   by_cases h20:c+1<20
   ·have e:silT (6,n) (popT X)= {popT X with qt:=putQ (6,n) (getQ (6,n) X.qt+1) X.qt,que:=(popT X).que++[(6,n)]}:=by
     unfold silT
     rw [if_neg (by show ¬(20<=getQ (6,n) X.qt+1);rw [hcn];omega)]
     rfl
    rw [e,if_pos h20]
    exact pha_F r (q++[(n,c+1)]) got _ lg h45 hf (by show (popT X).que++[(6,n)]=_;rw [hpop,List.map_append];rfl) (fun e he=>by
     rcases List.mem_append.1 he with he | he
     ·exact hcnt e he
     ·rw [List.mem_singleton] at he
      subst he
      show getQ (6,n) (putQ (6,n) (getQ (6,n) X.qt+1) X.qt)=_
      rw [bf7,hcn];rfl) (by
     rw [List.map_append,List.nodup_append]
     refine ⟨hn.2,by simp,fun y hy z hz=>?_⟩
     have hz:z=n:=by simpa using hz
     intro e;rw [e,hz] at hy;exact hn.1 hy)
   ·have e:silT (6,n) (popT X)= {popT X with qt:=putQ (6,n) (getQ (6,n) X.qt+1) X.qt,dbt:=bif hasS n X.dbt then X.dbt else X.dbt++[n]}:=by
     unfold silT
     rw [if_pos (by show 20<=getQ (6,n) X.qt+1;rw [hcn];omega)]
     rfl
    rw [e,if_neg h20]
    exact pha_F r q got _ lg h45 hf hpop hcnt hn.2
  ·rw [if_neg h2,if_pos h2]
   exact pha_F r q (putG n a got) (popT X) lg h45 hf hpop (fun e he=>hc e (List.mem_cons_of_mem _ he)) hn.2
end Go.Proofs.YtnpjififnhjbbaaDoor.E
set_option maxRecDepth 100000
namespace Go.Proofs.YtnpjififnhjbbaaDoor.E
open Go
theorem any_put {names:List By}{n:By}{a:Int}{got:List (By×Int)}(p:Int->Bool)(h0:p 0=false)(hn:n∈names)(hg:getG n got=0):names.any (fun s=>p (getG s (putG n a got)))=(names.any (fun s=>p (getG s got))||p a):=by
 rw [Bool.eq_iff_iff,List.any_eq_true,Bool.or_eq_true,List.any_eq_true]
 constructor
 ·rintro ⟨x,hx,hp⟩
  by_cases e:x=n
  ·rw [e,az8] at hp;exact .inr hp
  ·rw [aF3 a e] at hp;exact .inl ⟨x,hx,hp⟩
 ·rintro (⟨x,hx,hp⟩ | hp)
  ·refine ⟨x,hx,?_⟩
   have e:x≠n:=by intro e;rw [e,hg,h0] at hp;cases hp
   rw [aF3 a e];exact hp
  ·exact ⟨n,hn,by rw [az8];exact hp⟩
theorem filt_sub {l res:List By}(h:l.Sublist res)(hn:res.Nodup)(p:By->Bool)(hp:∀x∈res,p x=true↔x∈l):res.filter p=l:=by
 induction h with
 | slnil=>rfl
 | cons a h ih=>
  rename_i l₁ l₂
  rw [List.nodup_cons] at hn
  have ha:p a=false:=by
   cases hpa:p a with
   | false=>rfl
   | true=>exact absurd (h.subset ((hp a (List.mem_cons_self ..)).1 hpa)) hn.1
  rw [List.filter_cons,ha]
  exact ih hn.2 fun x hx=>hp x (List.mem_cons_of_mem _ hx)
 | cons_cons a h ih=>
  rename_i l₁ l₂
  rw [List.nodup_cons] at hn
  have ha:p a=true:=(hp a (List.mem_cons_self ..)).2 (List.mem_cons_self ..)
  rw [List.filter_cons,ha]
  simp only [if_true]
  congr 1
  refine ih hn.2 fun x hx=>?_
  rw [hp x (List.mem_cons_of_mem _ hx),List.mem_cons]
  refine ⟨fun h=>h.resolve_left fun e=>hn.1 (by rw [←e];exact hx),.inr⟩
def mx (a:Int):Bool:=a==2||a==3
def hz (a:Int):Bool:=a==4
def sl (a:Int):Bool:=decide (2<=a/\a<=4)
structure PhE (k:Int)(names:List By)(mix0 haz0:Bool)(q:List (By×Nat))(got:List (By×Int))(X:TX):Prop where
 k34:k=3∨k=4
 st:X.st=4∨X.st=5
 que:X.que=q.map fun e=>(k,e.1)
 cnt:∀e∈q,getQ (k,e.1) X.qt=e.2
 c6:∀n,getQ (6,n) X.qt=0
 nd:(q.map (·.1)).Nodup
 mem:∀e∈q,e.1∈names/\getG e.1 got=0
 sub:names.Sublist X.res
 nres:X.res.Nodup
 fgt:∀n,n∈X.fgt↔(n∈names/\sl (getG n got)=true)
 mix:X.mix=(mix0||names.any fun s=>mx (getG s got))
 haz:X.haz=(haz0||names.any fun s=>hz (getG s got))
theorem pha_E {k:Int}{names:List By}{mix0 haz0:Bool}:∀(r:List Int) (q:List (By×Nat)) (got:List (By×Int)) (X:TX) (lg:List By),PhE k names mix0 haz0 q got X ->
  gQ X lg r=az0 lg k 5 (fun got dbt r=>az0 lg 6 2 (fun _ dbt r=>aN8 X lg (mix0||names.any fun s=>mx (getG s got)) (haz0||names.any fun s=>hz (getG s got)) dbt r) r ((outQ names got).map fun s=>(s,0)) [] dbt) r q got X.dbt
 | r,[],got,X,lg,h=>by
  have hq:X.que=[]:=h.que
  rw [gQ_fgt hq h.st]
  have hfil:(X.res.filter fun s=>hasS s X.fgt)=outQ names got:=by
   refine filt_sub ((List.filter_sublist).trans h.sub) h.nres _ fun x hx=>?_
   rw [aq3,h.fgt,List.mem_filter]
   rfl
  rw [hfil]
  have hF:=pha_F r ((outQ names got).map fun s=>(s,0)) [] {X with que:=(outQ names got).map (fun s=>(6,s)),fgt:=[]} lg h.st rfl (by show (outQ names got).map _=_;rw [List.map_map];rfl) (fun e he=>by
   obtain ⟨s,_,rfl⟩:=List.mem_map.1 he
   exact h.c6 s) (by
   rw [List.map_map]
   show ((outQ names got).map fun s=>s).Nodup
   rw [List.map_id']
   exact (h.nres.sublist h.sub).sublist List.filter_sublist)
  rw [hF]
  have hm:=h.mix
  have hh:=h.haz
  have e:∀dbt r,aN8 {X with que:=(outQ names got).map (fun s=>(6,s)),fgt:=[]} lg X.mix X.haz dbt r=aN8 X lg (mix0||names.any fun s=>mx (getG s got)) (haz0||names.any fun s=>hz (getG s got)) dbt r:=by
   intro dbt r;rw [hm,hh];rfl
  show az0 lg 6 2 (fun _ dbt r=>aN8 {X with que:=(outQ names got).map (fun s=>(6,s)),fgt:=[]} lg X.mix X.haz dbt r) r _ [] X.dbt=_
  simp only [e]
  cases r<;>rfl
 | [],(n,c)::q,got,X,lg,h=>aY3 h.que lg
 | a::r,(n,c)::q,got,X,lg,h=>by
  have hq':X.que=(k,n)::q.map (fun e=>(k,e.1)):=h.que
  rw [aS3 hq']
  have hcn:getQ (k,n) X.qt=c:=h.cnt (n,c) (List.mem_cons_self ..)
  have hnd:=h.nd
  rw [List.map_cons,List.nodup_cons] at hnd
  have hpop:(popT X).que=q.map (fun e=>(k,e.1)):=by show X.que.tail=_;rw [hq'];rfl
  have hmem:=h.mem (n,c) (List.mem_cons_self ..)
  have ht:aj5 (k,n) a (popT X)=addF (k,n) a (if a=2∨a=3 then {popT X with mix:=true} else if a=4 then {popT X with haz:=true} else if a=5 then silT (k,n) (popT X) else popT X):=by
   unfold aj5
   have h1:¬((k,n):Int×By).1=1:=by show ¬k=1;have:=h.k34;omega
   have h2:¬((k,n):Int×By).1=2:=by show ¬k=2;have:=h.k34;omega
   rw [if_neg h1,if_neg h2,if_pos h.k34]
  rw [ht]
  show _=if a≠5 then az0 lg k 5 _ r q (putG n a got) X.dbt else if c+1<20 then az0 lg k 5 _ r (q++[(n,c+1)]) got X.dbt else az0 lg k 5 _ r q got (bif hasS n X.dbt then X.dbt else X.dbt++[n])
  have hk6:∀m,((6,m):Int×By)≠(k,n):=by
   intro m e
   injection e with e _
   have:=h.k34;omega
  by_cases h5:a=5
  ·rw [if_neg (show ¬(a≠5) from fun h=>h h5)]
   have e0:addF (k,n) a (if a=2∨a=3 then {popT X with mix:=true} else if a=4 then {popT X with haz:=true} else if a=5 then silT (k,n) (popT X) else popT X)=silT (k,n) (popT X):=by
    rw [if_neg (by omega),if_neg (by omega),if_pos h5]
    unfold addF;rw [if_neg (by omega)]
   rw [e0]
   have hcnt:∀e∈q,getQ (k,e.1) (putQ (k,n) (getQ (k,n) X.qt+1) X.qt)=e.2:=by
    intro e he
    rw [bf8]
    ·exact h.cnt e (List.mem_cons_of_mem _ he)
    ·intro h3
     injection h3 with _ h3
     exact hnd.1 (by rw [←h3];exact q_mem (c:=e.2) he)
   have hc6:∀m,getQ (6,m) (putQ (k,n) (getQ (k,n) X.qt+1) X.qt)=0:=by
    intro m;rw [bf8 _ (hk6 m)];exact h.c6 m
   by_cases h20:c+1<20
   ·have e:silT (k,n) (popT X)= {popT X with qt:=putQ (k,n) (getQ (k,n) X.qt+1) X.qt,que:=(popT X).que++[(k,n)]}:=by
     unfold silT
     rw [if_neg (by show ¬(20<=getQ (k,n) X.qt+1);rw [hcn];omega)]
     rfl
    rw [e,if_pos h20]
    exact pha_E r (q++[(n,c+1)]) got _ lg ⟨h.k34,h.st,by show (popT X).que++[(k,n)]=_;rw [hpop,List.map_append];rfl,fun e he=>by
     rcases List.mem_append.1 he with he | he
     ·exact hcnt e he
     ·rw [List.mem_singleton] at he
      subst he
      show getQ (k,n) (putQ (k,n) (getQ (k,n) X.qt+1) X.qt)=_
      rw [bf7,hcn];rfl,hc6,by
     rw [List.map_append,List.nodup_append]
     refine ⟨hnd.2,by simp,fun y hy z hz=>?_⟩
     have hz:z=n:=by simpa using hz
     intro e;rw [e,hz] at hy;exact hnd.1 hy,fun e he=>by
     rcases List.mem_append.1 he with he | he
     ·exact h.mem e (List.mem_cons_of_mem _ he)
     ·rw [List.mem_singleton] at he
      subst he
      exact hmem,h.sub,h.nres,h.fgt,h.mix,h.haz⟩
   ·have e:silT (k,n) (popT X)= {popT X with qt:=putQ (k,n) (getQ (k,n) X.qt+1) X.qt,dbt:=bif hasS n X.dbt then X.dbt else X.dbt++[n]}:=by
     unfold silT
     rw [if_pos (by show 20<=getQ (k,n) X.qt+1;rw [hcn];omega)]
     rfl
    rw [e,if_neg h20]
    exact pha_E r q got _ lg ⟨h.k34,h.st,hpop,hcnt,hc6,hnd.2,fun e he=>h.mem e (List.mem_cons_of_mem _ he),h.sub,h.nres,h.fgt,h.mix,h.haz⟩
  ·rw [if_pos h5]
   have hX:∃X':TX,addF (k,n) a (if a=2∨a=3 then {popT X with mix:=true} else if a=4 then {popT X with haz:=true} else if a=5 then silT (k,n) (popT X) else popT X)=X'/\X'= {popT X with mix:=X.mix||mx a,haz:=X.haz||hz a,fgt:=if 2<=a/\a<=4 then X.fgt++[n] else X.fgt}:=by
    refine ⟨_,rfl,?_⟩
    unfold addF
    by_cases h23:a=2∨a=3
    ·have h24:2<=a/\a<=4:=by omega
     have hm:mx a=true:=by unfold mx;rcases h23 with rfl | rfl<;>rfl
     have hh:hz a=false:=by unfold hz;rcases h23 with rfl | rfl<;>rfl
     simp only [h23,h24,if_true,hm,hh,Bool.or_true,Bool.or_false,and_self]
     rfl
    ·by_cases h4:a=4
     ·have h24:2<=a/\a<=4:=by omega
      have hm:mx a=false:=by rw [h4];rfl
      have hh:hz a=true:=by rw [h4];rfl
      simp only [h23,h24,if_true,if_false,h4,hm,hh,Bool.or_true,Bool.or_false,and_self,show mx 4=false from rfl,show hz 4=true from rfl]
      rfl
     ·have h24:¬(2<=a/\a<=4):=by omega
      have hm:mx a=false:=by unfold mx;rw [beq_eq_false_iff_ne.2 (show a≠2 by omega),beq_eq_false_iff_ne.2 (show a≠3 by omega)];rfl
      have hh:hz a=false:=beq_eq_false_iff_ne.2 h4
      simp only [h23,h24,if_false,h4,h5,hm,hh,Bool.or_false]
      rfl
   obtain ⟨X',hX1,hX2⟩:=hX
   rw [hX1]
   have hgn:=hmem.2
   have hP:PhE k names mix0 haz0 q (putG n a got) X':=by
    subst hX2
    refine ⟨h.k34,h.st,hpop,fun e he=>h.cnt e (List.mem_cons_of_mem _ he),h.c6,hnd.2,fun e he=>⟨(h.mem e (List.mem_cons_of_mem _ he)).1,?_⟩,h.sub,h.nres,fun m=>?_,?_,?_⟩
    ·rw [aF3]
     ·exact (h.mem e (List.mem_cons_of_mem _ he)).2
     ·intro h3;exact hnd.1 (by rw [←h3];exact q_mem (c:=e.2) he)
    ·show m∈(if 2<=a/\a<=4 then X.fgt++[n] else X.fgt)↔_
     by_cases h24:2<=a/\a<=4
     ·rw [if_pos h24,List.mem_append,List.mem_singleton,h.fgt]
      by_cases e:m=n
      ·rw [e,az8]
       exact ⟨fun _=>⟨hmem.1,decide_eq_true h24⟩,fun _=>.inr rfl⟩
      ·rw [aF3 a e]
       exact ⟨fun h=>h.resolve_right e,.inl⟩
     ·rw [if_neg h24,h.fgt]
      by_cases e:m=n
      ·rw [e,az8,hgn]
       refine ⟨fun h=>(by have:=h.2;cases this),fun h=>?_⟩
       have:=h.2
       unfold sl at this
       rw [decide_eq_true_iff] at this
       exact absurd this h24
      ·rw [aF3 a e]
    ·show (X.mix||mx a)=_
     rw [any_put mx rfl hmem.1 hgn,h.mix,Bool.or_assoc]
    ·show (X.haz||hz a)=_
     rw [any_put hz rfl hmem.1 hgn,h.haz,Bool.or_assoc]
   have hd:X'.dbt=X.dbt:=by rw [hX2];rfl
   have he:∀mix haz dbt,aN8 X' lg mix haz dbt=aN8 X lg mix haz dbt:=by intro mix haz dbt;rw [hX2];rfl
   have:=pha_E r q (putG n a got) X' lg hP
   simp only [he] at this
   rw [this,hd]
theorem pha_both {k:Int}{names:List By}{X:TX}{lg:List By}(hk:k=3∨k=4)(hst:X.st=4∨X.st=5)(hq:X.que=names.map fun s=>(k,s))(hqt:X.qt=[])(hsub:names.Sublist X.res)(hres:X.res.Nodup)(hf:X.fgt=[])(hm:X.mix=false)(hz':X.haz=false)(hd:X.dbt=[])(r:List Int):
  gQ X lg r=aN9 lg k names {com:=X.st==4} (fun E=>aftQ (lg++if X.lgd=true/\E.dbt=[] then [endB X.num] else []) X.wat E) r:=by
 have hm0:(names.any fun s=>mx (getG s []))=false:=by rw [List.any_eq_false];intro x _;simp [getG,mx]
 have hz0:(names.any fun s=>hz (getG s []))=false:=by rw [List.any_eq_false];intro x _;simp [getG,hz]
 have h:=pha_E (k:=k) (names:=names) (mix0:=false) (haz0:=false) r (names.map fun s=>(s,0)) [] X lg ⟨hk,hst,by rw [hq,List.map_map];rfl,fun e he=>by
  obtain ⟨s,_,rfl⟩:=List.mem_map.1 he
  rw [hqt];rfl,fun n=>by rw [hqt];rfl,by rw [List.map_map];show (names.map fun s=>s).Nodup;rw [List.map_id'];exact hres.sublist hsub,fun e he=>by
  obtain ⟨s,hs,rfl⟩:=List.mem_map.1 he
  exact ⟨hs,rfl⟩,hsub,hres,fun n=>by rw [hf];simp [getG,sl],by rw [hm,hm0];rfl,by rw [hz',hz0];rfl⟩
 rw [h,hd]
 rfl
end Go.Proofs.YtnpjififnhjbbaaDoor.E
set_option maxRecDepth 100000
namespace Go.Proofs.YtnpjififnhjbbaaDoor.E
open Go
theorem delS_head {s:By}{l:List By}(h:(s::l).Nodup):delS s (s::l)=l:=by
 rw [List.nodup_cons] at h
 unfold delS
 rw [List.filter_cons,decide_eq_true rfl]
 simp only [Bool.not_true,Bool.false_eq_true,if_false]
 rw [List.filter_eq_self]
 intro x hx
 have:s≠x:=fun e=>h.1 (by rw [e];exact hx)
 rw [decide_eq_false this];rfl
structure Cl (X:TX):Prop where
 qt:X.qt=[]
 fgt:X.fgt=[]
 mix:X.mix=false
 haz:X.haz=false
 dbt:X.dbt=[]
 lgd:X.lgd=false
 nd:X.res.Nodup
theorem aX2 {X:TX}{l:List By}(h:Cl X)(hl:l.Sublist X.res)(hin:∀x∈X.res,au2 X x=true↔x∈l)(r:List Int):gQ (au7 X) [] r=aN9 [] 4 l {} (aftQ [] X.wat) r:=by
 have hf:X.res.filter (au2 X)=l:=filt_sub hl h.nd _ hin
 have:=pha_both (k:=4) (names:=l) (X:=au7 X) (lg:=[]) (.inr rfl) (.inr rfl) (by show (X.res.filter (au2 X)).map _=_;rw [hf]) h.qt hl h.nd h.fgt h.mix h.haz h.dbt r
 rw [this]
 have e:(fun E:En=>aftQ ([]++if (au7 X).lgd=true/\E.dbt=[] then [endB (au7 X).num] else []) (au7 X).wat E)=aftQ [] X.wat:=by
  funext E
  have:¬((au7 X).lgd=true/\E.dbt=[]):=fun hh=>by have:=hh.1;rw [show (au7 X).lgd=X.lgd from rfl,h.lgd] at this;cases this
  rw [if_neg this]
  rfl
 rw [e]
 rfl
theorem pha_C {X:TX}{yes:List By}(h:Cl X)(hst:X.st=3)(hq:X.que=[])(hr:X.rest≠none∨X.res=[])(hy:X.yes=yes)(hs:yes.Sublist X.res)(r:List Int):gQ X [] r=prpQ X.num X.wat [] yes r:=by
 have hp:aj1 X=cmtT X/\au0 X=cmtL X:=by
  unfold aj1 au0
  cases hx:X.rest with
  | some l=>exact ⟨rfl,rfl⟩
  | none=>rw [hr.resolve_left fun h=>h hx];exact ⟨rfl,rfl⟩
 have hg:gQ X [] r=mgrQ (setT 3 (cmtT X)) (cmtL X++setL 3 (cmtT X)) r:=by
  unfold gQ
  rw [aQ6 hq hst,bt7 hq hst,hp.1,hp.2,List.nil_append]
 have hfin:fin (setT 3 (cmtT X)):=bk5 (fin2 (.inl rfl))
 have hg2:gQ X [] r=gQ (cmtT X) (cmtL X) r:=by
  rw [hg];unfold gQ;rw [(bt5 hfin).1,(bt5 hfin).2]
 rw [hg2]
 cases yes with
 | nil=>
  have h1:cmtL X=[]:=by unfold cmtL;rw [hy]
  have hq2:(cmtT X).que=[]:=by show X.que++X.yes.map _=_;rw [hq,hy];rfl
  rw [h1,gQ_end hq2 (.inl rfl) h.fgt]
  unfold aN8
  have hn:¬((cmtT X).lgd=true/\(cmtT X).dbt=[]):=fun hh=>by
   have:=hh.1
   rw [show (cmtT X).lgd=(X.lgd||!X.yes.isEmpty) from rfl,h.lgd,hy] at this
   cases this
  rw [if_neg hn]
  show aftQ ([]++[]) X.wat {com:=(4:Int)==4,mix:=X.mix,haz:=X.haz,dbt:=X.dbt} r=aftQ [] X.wat {com:=true} r
  rw [h.mix,h.haz,h.dbt]
  rfl
 | cons y ys=>
  have h1:cmtL X=[cmtB X.num (y::ys)]:=by unfold cmtL;rw [hy]
  have hlg:(cmtT X).lgd=true:=by show (X.lgd||!X.yes.isEmpty)=true;rw [hy];cases X.lgd<;>rfl
  rw [h1]
  have:=pha_both (k:=3) (names:=y::ys) (X:=cmtT X) (lg:=[cmtB X.num (y::ys)]) (.inl rfl) (.inl rfl) (by show X.que++X.yes.map _=_;rw [hq,hy];rfl) h.qt hs h.nd h.fgt h.mix h.haz h.dbt r
  rw [this]
  show _=cmtQ X.num X.wat (y::ys) r
  unfold cmtQ
  have e:(fun E:En=>aftQ ([cmtB X.num (y::ys)]++if (cmtT X).lgd=true/\E.dbt=[] then [endB (cmtT X).num] else []) (cmtT X).wat E)=fun E=>aftQ (match E.dbt with | []=>[cmtB X.num (y::ys),endB X.num] | _=>[cmtB X.num (y::ys)]) X.wat E:=by
   funext E
   cases hd:E.dbt with
   | nil=>rw [if_pos ⟨hlg,rfl⟩];rfl
   | cons z l=>rw [if_neg (fun hh=>by cases hh.2)];rfl
  rw [e]
  rfl
theorem pha_P :∀(r:List Int) (names yes:List By) (X:TX),Cl X->X.st=3->X.que=names.map (fun s=>(2,s))->X.rest=some names->X.yes=yes->(yes++names).Sublist X.res->gQ X [] r=prpQ X.num X.wat names yes r
 | r,[],yes,X,h,hst,hq,hr,hy,hs=>by
  rw [List.append_nil] at hs
  exact pha_C h hst hq (.inl (by rw [hr];simp)) hy hs r
 | [],s::names,yes,X,h,hst,hq,hr,hy,hs=>aY3 hq []
 | a::r,s::names,yes,X,h,hst,hq,hr,hy,hs=>by
  have hq':X.que=(2,s)::names.map (fun s=>((2:Int),s)):=hq
  rw [aS3 hq']
  have hpop:(popT X).que=names.map (fun s=>((2:Int),s)):=by show X.que.tail=_;rw [hq'];rfl
  have hnd:=h.nd.sublist hs
  have hnd2:(s::names).Nodup:=(List.nodup_append.1 hnd).2.1
  have hdel:∀Y:TX,Y.rest=X.rest->(delR (2,s) Y).rest=some names:=by
   intro Y hY
   show Y.rest.map (delS s)=_
   rw [hY,hr]
   exact congrArg some (delS_head hnd2)
  have hsub:(yes++names).Sublist (yes++s::names):=List.Sublist.append (List.Sublist.refl _) (List.sublist_cons_self ..)
  have ht:aj5 (2,s) a (popT X)=if a=1 then delR (2,s) {popT X with yes:=(popT X).yes++[s]} else if a=2 then au7 (delR (2,s) (popT X)) else if a=4 then au7 (popT X) else delR (2,s) (popT X):=by
   unfold aj5;rw [if_neg (by simp),if_pos rfl]
  rw [ht]
  show _=(if a=1 then prpQ X.num X.wat names (yes++[s]) else if a=2 then aN9 [] 4 (yes++names) {} (aftQ [] X.wat) else if a=4 then aN9 [] 4 (yes++s::names) {} (aftQ [] X.wat) else prpQ X.num X.wat names yes:Kq) r
  have hcl:∀Y:TX,Y.qt=X.qt->Y.fgt=X.fgt->Y.mix=X.mix->Y.haz=X.haz->Y.dbt=X.dbt->Y.lgd=X.lgd->Y.res=X.res->Cl Y:=fun Y h1 h2 h3 h4 h5 h6 h7=>⟨by rw [h1];exact h.qt,by rw [h2];exact h.fgt,by rw [h3];exact h.mix,by rw [h4];exact h.haz,by rw [h5];exact h.dbt,by rw [h6];exact h.lgd,by rw [h7];exact h.nd⟩
  by_cases h1:a=1
  ·rw [if_pos h1,if_pos h1]
   exact pha_P r names (yes++[s]) (delR (2,s) {popT X with yes:=(popT X).yes++[s]}) (hcl _ rfl rfl rfl rfl rfl rfl rfl) hst hpop (hdel _ rfl) (by show X.yes++[s]=_;rw [hy]) (by rw [List.append_assoc];exact hs)
  rw [if_neg h1,if_neg h1]
  by_cases h2:a=2
  ·rw [if_pos h2,if_pos h2]
   refine aX2 (X:=delR (2,s) (popT X)) (hcl _ rfl rfl rfl rfl rfl rfl rfl) (hsub.trans hs) (fun x _=>?_) r
   unfold au2
   rw [hdel (popT X) rfl]
   show (hasS x X.yes||hasS x names)=true↔_
   rw [Bool.or_eq_true,aq3,aq3,List.mem_append,hy]
  rw [if_neg h2,if_neg h2]
  by_cases h4:a=4
  ·rw [if_pos h4,if_pos h4]
   refine aX2 (X:=popT X) (hcl _ rfl rfl rfl rfl rfl rfl rfl) hs (fun x _=>?_) r
   unfold au2
   show (hasS x X.yes||hasS x (X.rest.getD []))=true↔_
   rw [hr]
   show (hasS x X.yes||hasS x (s::names))=true↔_
   rw [Bool.or_eq_true,aq3,aq3,List.mem_append,hy]
  rw [if_neg h4,if_neg h4]
  exact pha_P r names yes (delR (2,s) (popT X)) (hcl _ rfl rfl rfl rfl rfl rfl rfl) hst hpop (hdel _ rfl) hy (hsub.trans hs)
theorem pha_1 {X:TX}{s:By}(h:Cl X)(hst:X.st=3)(hres:X.res=[s])(hq:X.que=[(5,s)]):∀r,gQ X [] r=oneQ X.wat s r
 | []=>aY3 hq []
 | a::r=>by
  rw [aS3 hq]
  have ht:aj5 (5,s) a (popT X)=addF (5,s) a (if a<=0∨a=2 then {popT X with st:=5} else if a=3 then {popT X with st:=4,mix:=true} else if a=4∨a=5 then {popT X with st:=4,haz:=true} else {popT X with st:=4}):=by
   unfold aj5;rw [if_neg (by simp),if_neg (by simp),if_neg (by simp),if_pos rfl]
  rw [ht]
  have hX:∃X':TX,addF (5,s) a (if a<=0∨a=2 then {popT X with st:=5} else if a=3 then {popT X with st:=4,mix:=true} else if a=4∨a=5 then {popT X with st:=4,haz:=true} else {popT X with st:=4})=X'/\X'= {popT X with st:=if a<=0∨a=2 then 5 else 4,mix:=X.mix||a==3,haz:=X.haz||(a==4||a==5),fgt:=if 2<=a/\a<=4 then X.fgt++[s] else X.fgt}:=by
   refine ⟨_,rfl,?_⟩
   unfold addF
   by_cases h02:a<=0∨a=2
   ·have e3:(a==3)=false:=beq_eq_false_iff_ne.2 (by omega)
    have e4:(a==4)=false:=beq_eq_false_iff_ne.2 (by omega)
    have e5:(a==5)=false:=beq_eq_false_iff_ne.2 (by omega)
    by_cases h24:2<=a/\a<=4<;>simp only [h02,h24,if_true,if_false,e3,e4,e5,Bool.or_false]<;>rfl
   ·by_cases h3:a=3
    ·have h24:2<=a/\a<=4:=by omega
     have e3:(a==3)=true:=beq_iff_eq.2 h3
     have e4:(a==4)=false:=beq_eq_false_iff_ne.2 (by omega)
     have e5:(a==5)=false:=beq_eq_false_iff_ne.2 (by omega)
     rw [if_neg h02,if_pos h3,if_pos h24,if_neg h02,if_pos h24,e3,e4,e5,Bool.or_true,Bool.or_false,Bool.or_false]
     rfl
    ·have e3:(a==3)=false:=beq_eq_false_iff_ne.2 h3
     by_cases h45:a=4∨a=5
     ·have e45:(a==4||a==5)=true:=by rw [Bool.or_eq_true,beq_iff_eq,beq_iff_eq];exact h45
      rw [if_neg h02,if_neg h3,if_pos h45,if_neg h02,e3,e45,Bool.or_true,Bool.or_false]
      by_cases h24:2<=a/\a<=4
      ·rw [if_pos h24,if_pos h24];rfl
      ·rw [if_neg h24,if_neg h24];rfl
     ·have e45:(a==4||a==5)=false:=by rw [Bool.or_eq_false_iff,beq_eq_false_iff_ne,beq_eq_false_iff_ne];omega
      have h24:¬(2<=a/\a<=4):=by omega
      rw [if_neg h02,if_neg h3,if_neg h45,if_neg h02,e3,e45,Bool.or_false,Bool.or_false,if_neg h24,if_neg h24]
      rfl
  obtain ⟨X',hX1,hX2⟩:=hX
  rw [hX1]
  rw [h.mix,h.haz,h.fgt,Bool.false_or,Bool.false_or,List.nil_append] at hX2
  have hst':X'.st=4∨X'.st=5:=by
   rw [hX2]
   show (if a<=0∨a=2 then (5:Int) else 4)=4∨_=_
   by_cases h02:a<=0∨a=2
   ·rw [if_pos h02];exact .inr rfl
   ·rw [if_neg h02];exact .inl rfl
  have hq':X'.que=[]:=by rw [hX2];show X.que.tail=[];rw [hq];rfl
  have hlg:X'.lgd=false:=by rw [hX2];exact h.lgd
  have hcom:(X'.st==4)=decide (¬(a<=0∨a=2)):=by
   rw [hX2]
   show ((if a<=0∨a=2 then (5:Int) else 4)==4)=_
   by_cases h02:a<=0∨a=2
   ·rw [if_pos h02,decide_eq_false (fun h=>h h02)];rfl
   ·rw [if_neg h02,decide_eq_true h02];rfl
  have hend:∀dbt,aN8 X' [] X'.mix X'.haz dbt=aftQ [] X.wat {com:=decide (¬(a<=0∨a=2)),mix:=a==3,haz:=a==4||a==5,dbt}:=by
   intro dbt
   unfold aN8
   rw [hlg,if_neg (fun h=>by cases h.1),hcom,List.append_nil]
   rw [hX2];rfl
  show gQ X' [] r=(if 2<=a/\a<=4 then fun r=>az0 [] 6 2 (fun _ dbt r=>aftQ [] X.wat {com:=decide (¬(a<=0∨a=2)),mix:=a==3,haz:=a==4||a==5,dbt} r) r [(s,0)] [] [] else aftQ [] X.wat {com:=decide (¬(a<=0∨a=2)),mix:=a==3,haz:=a==4||a==5}:Kq) r
  by_cases h24:2<=a/\a<=4
  ·rw [if_pos h24,gQ_fgt hq' hst']
   have hfg:X'.fgt=[s]:=by rw [hX2];show (if 2<=a/\a<=4 then [s] else [])=_;rw [if_pos h24]
   have hres':X'.res=[s]:=by rw [hX2];exact hres
   have hfil:(X'.res.filter fun x=>hasS x X'.fgt)=[s]:=by
    rw [hfg,hres',List.filter_cons]
    rw [show hasS s [s]=true from by rw [aq3];simp]
    rfl
   rw [hfil]
   have hqt':X'.qt=[]:=by rw [hX2];exact h.qt
   have hdb':X'.dbt=[]:=by rw [hX2];exact h.dbt
   have hF:=pha_F r [(s,0)] [] {X' with que:=[s].map (fun s=>((6:Int),s)),fgt:=[]} [] hst' rfl rfl (fun e he=>by
    rw [List.mem_singleton] at he
    subst he
    show getQ (6,s) X'.qt=_
    rw [hqt'];rfl) (by simp)
   rw [hF]
   show az0 [] 6 2 (fun _ dbt r=>aN8 X' [] X'.mix X'.haz dbt r) r [(s,0)] [] X'.dbt=_
   simp only [hend,hdb']
  ·rw [if_neg h24,gQ_end hq' hst' (by rw [hX2];show (if 2<=a/\a<=4 then [s] else [])=[];rw [if_neg h24]),hend]
   have hdb':X'.dbt=[]:=by rw [hX2];exact h.dbt
   rw [hdb']
theorem pha_B :∀(r:List Int) (w:List By) (X:TX),Cl X->X.st=3->X.que=w.map (fun s=>(1,s))->X.rest=none->X.yes=[]->gQ X [] r=befQ X.num X.res X.wat w r
 | r,[],X,h,hst,hq,hr,hy=>by
  have hq:X.que=[]:=hq
  show _=rstQ X.num X.wat X.res r
  have hfe:gQ X [] r=mgrQ (setT 3 (aj1 X)) (au0 X++setL 3 (aj1 X)) r:=by
   unfold gQ
   rw [aQ6 hq hst,bt7 hq hst,List.nil_append]
  cases hres:X.res with
  | nil=>
   exact pha_C h hst hq (.inr hres) hy (by simp) r
  | cons s l=>
   cases l with
   | nil=>
    have hp:aj1 X= {X with rest:=some [],que:=[(5,s)]}:=by unfold aj1;rw [hr,hres]
    have hl:au0 X=[]:=by unfold au0;rw [hr,hres]
    rw [hfe,hl,List.nil_append,hp]
    have hne:({X with rest:=some [],que:=[(5,s)]}:TX).que≠[]:=by simp
    rw [aA8 hne,ba2 hne,←gQ_q hne]
    exact pha_1 (X:={X with rest:=some [],que:=[(5,s)]}) ⟨h.qt,h.fgt,h.mix,h.haz,h.dbt,h.lgd,h.nd⟩ hst hres rfl r
   | cons s2 l=>
    have hp:aj1 X= {X with rest:=some X.res,que:=X.res.map fun s=>(2,s)}:=by
     unfold aj1;rw [hr,hq,hres];rfl
    have hl:au0 X=[]:=by unfold au0;rw [hr,hres]
    rw [hfe,hl,List.nil_append,hp]
    have hne:({X with rest:=some X.res,que:=X.res.map fun s=>(2,s)}:TX).que≠[]:=by
     show X.res.map _≠[]
     rw [hres];simp
    rw [aA8 hne,ba2 hne,←gQ_q hne]
    have:=pha_P r X.res [] {X with rest:=some X.res,que:=X.res.map fun s=>(2,s)} ⟨h.qt,h.fgt,h.mix,h.haz,h.dbt,h.lgd,h.nd⟩ hst rfl rfl hy (by simp)
    rw [this,hres]
    rfl
 | [],s::w,X,h,hst,hq,hr,hy=>aY3 hq []
 | a::r,s::w,X,h,hst,hq,hr,hy=>by
  have hq':X.que=(1,s)::w.map (fun s=>((1:Int),s)):=hq
  rw [aS3 hq']
  have hpop:(popT X).que=w.map (fun s=>((1:Int),s)):=by show X.que.tail=_;rw [hq'];rfl
  have ht:aj5 (1,s) a (popT X)=if a=2 then au7 {popT X with rest:=ar5 (popT X).res} else popT X:=by
   unfold aj5;rw [if_pos rfl]
  rw [ht]
  show _=(if a=2 then bakQ X.wat X.res else befQ X.num X.res X.wat w:Kq) r
  by_cases h2:a=2
  ·rw [if_pos h2,if_pos h2]
   refine aX2 (X:={popT X with rest:=ar5 (popT X).res}) ⟨h.qt,h.fgt,h.mix,h.haz,h.dbt,h.lgd,h.nd⟩ (List.Sublist.refl _) (fun x hx=>?_) r
   refine ⟨fun _=>hx,fun _=>?_⟩
   unfold au2
   rw [Bool.or_eq_true]
   right
   show hasS x ((ar5 X.res).getD [])=true
   have hx:x∈X.res:=hx
   rw [aq3]
   unfold ar5
   cases hres:X.res with
   | nil=>rw [hres] at hx;cases hx
   | cons y l=>rw [hres] at hx;exact hx
  ·rw [if_neg h2,if_neg h2]
   exact pha_B r w (popT X) ⟨h.qt,h.fgt,h.mix,h.haz,h.dbt,h.lgd,h.nd⟩ hst hpop hr hy
structure New0 (T:TX):Prop where
 cl:Cl T
 que:T.que=[]
 yes:T.yes=[]
 rest:T.rest=none
theorem commit_Q {T:TX}(h:New0 T)(r:List Int):mgrQ (comT T) (comL T) r=bC8 T.num true T.res T.wat r:=by
 have hcl:=h.cl
 have:=pha_B r T.wat {T with st:=3,que:=T.que++T.wat.map fun s=>(1,s)} ⟨hcl.qt,hcl.fgt,hcl.mix,hcl.haz,hcl.dbt,hcl.lgd,hcl.nd⟩ rfl (by show T.que++_=_;rw [h.que];rfl) h.rest h.yes
 exact this
theorem roll_Q {T:TX}(h:New0 T)(r:List Int):mgrQ (rolT T) (rolL T) r=bC8 T.num false T.res T.wat r:=by
 have hcl:=h.cl
 have:=aX2 (X:={T with rest:=ar5 T.res}) ⟨hcl.qt,hcl.fgt,hcl.mix,hcl.haz,hcl.dbt,hcl.lgd,hcl.nd⟩ (List.Sublist.refl _) (fun x hx=>by
  refine ⟨fun _=>hx,fun _=>?_⟩
  unfold au2
  rw [Bool.or_eq_true]
  right
  show hasS x ((ar5 T.res).getD [])=true
  have hx:x∈T.res:=hx
  rw [aq3]
  unfold ar5
  cases hres:T.res with
  | nil=>rw [hres] at hx;cases hx
  | cons y l=>rw [hres] at hx;exact hx) r
 exact this
end Go.Proofs.YtnpjififnhjbbaaDoor.E
set_option maxRecDepth 100000
namespace Go.Proofs.YtnpjififnhjbbaaDoor.E
open Go
def kOk (l:List (Int×By)):Prop:=∀k∈l,1<=k.1/\k.1<=7
theorem aR5 {n:Int}(h:1<=n/\n<=7)(l:List By):kOk (l.map fun s=>(n,s)):=by
 intro k hk
 obtain ⟨x,_,rfl⟩:=List.mem_map.1 hk
 exact h
theorem aR6 {l l':List (Int×By)}(h:kOk l)(h':kOk l'):kOk (l++l'):=by
 intro k hk
 rcases List.mem_append.1 hk with hk | hk
 ·exact h k hk
 ·exact h' k hk
structure Inv (T:TX):Prop where
 kinds:kOk T.que
 st:3<=T.st/\T.st<=7
 seven:6<=T.st->∀k∈T.que,k.1=7
 com:(T.st=6->T.com=true)/\(T.st=7->T.com=false)
structure Inv0 (X:TX):Prop where
 kinds:kOk X.que
 st:3<=X.st/\X.st<=5
theorem Inv0.inv {X:TX}(h:Inv0 X):Inv X:=⟨h.kinds,by have:=h.st;omega,fun h6=>by have:=h.st;omega,fun h6=>by have:=h.st;omega,fun h6=>by have:=h.st;omega⟩
theorem Inv0.prep {X:TX}(h:Inv0 X):Inv0 (aj1 X):=by
 have hc:Inv0 (cmtT X):=⟨aR6 h.kinds (aR5 (by omega) _),by show 3<=(4:Int)/\(4:Int)<=5;omega⟩
 unfold aj1
 split
 ·exact hc
 ·split
  ·exact hc
  ·rename_i a e
   exact ⟨by intro k hk;have hk:k∈[((5:Int),a)]:=hk;rw [List.mem_singleton] at hk;rw [hk];show 1<=(5:Int)/\(5:Int)<=7;omega,h.st⟩
  ·exact ⟨aR6 h.kinds (aR5 (by omega) _),h.st⟩
theorem Inv.set :∀(f:Nat) (X:TX),Inv0 X->Inv (setT f X)
 | 0,X,h=>h.inv
 | f+1,X,h=>by
  by_cases hq:X.que=[]
  ·by_cases h3:X.st=3
   ·rw [aQ6 hq h3];exact Inv.set f _ h.prep
   ·have h45:X.st=4∨X.st=5:=by have:=h.st;omega
    rw [aB9 hq h45]
    by_cases hf:X.fgt=[]
    ·have hs:=bm0 (T:=X) hf
     rw [aE4 hs]
     have he:endT X= {X with com:=X.st==4,st:=if X.st=4 then 6 else 7,que:=X.que++X.wat.map fun s=>(7,s)}:=by unfold endT;rw [hf]
     rw [he]
     refine ⟨aR6 h.kinds (aR5 (by omega) _),?_,fun _ k hk=>?_,fun h6=>?_,fun h7=>?_⟩
     ·show 3<=(if X.st=4 then (6:Int) else 7)/\(if X.st=4 then (6:Int) else 7)<=7
      split<;>omega
     ·have hk:k∈X.que++X.wat.map fun s=>((7:Int),s):=hk
      rw [hq,List.nil_append] at hk
      obtain ⟨x,_,rfl⟩:=List.mem_map.1 hk
      rfl
     ·have h6:(if X.st=4 then (6:Int) else 7)=6:=h6
      show (X.st==4)=true
      by_cases h4:X.st=4
      ·exact beq_iff_eq.2 h4
      ·rw [if_neg h4] at h6;omega
     ·have h7:(if X.st=4 then (6:Int) else 7)=7:=h7
      show (X.st==4)=false
      by_cases h4:X.st=4
      ·rw [if_pos h4] at h7;omega
      ·exact beq_eq_false_iff_ne.2 h4
    ·have he:endT X= {X with que:=X.que++(X.res.filter fun s=>hasS s X.fgt).map (fun s=>(6,s)),fgt:=[]}:=by
      unfold endT;split<;>first | (rename_i e;exact absurd e hf) | rfl
     refine Inv.set f _ ?_
     rw [he]
     exact ⟨aR6 h.kinds (aR5 (by omega) _),h.st⟩
  ·rw [aA8 hq];exact h.inv
theorem kOk_tail {l:List (Int×By)}(h:kOk l):kOk l.tail:=fun k hk=>h k (List.mem_of_mem_tail hk)
theorem Inv0.back {X:TX}:Inv0 (au7 X):=⟨aR5 (by omega) _,by show 3<=(5:Int)/\(5:Int)<=5;omega⟩
theorem Inv0.sil {X:TX}{k:Int×By}(h:Inv0 X)(hk:1<=k.1/\k.1<=7):Inv0 (silT k X):=by
 unfold silT
 simp only
 split
 ·exact ⟨h.kinds,h.st⟩
 ·exact ⟨aR6 h.kinds (fun j hj=>by rw [List.mem_singleton] at hj;rw [hj];exact hk),h.st⟩
theorem Inv0.addF {X:TX}{k:Int×By}{a:Int}(h:Inv0 X):Inv0 (addF k a X):=by
 unfold E.addF
 split
 ·exact ⟨h.kinds,h.st⟩
 ·exact h
theorem Inv0.told {X:TX}{k:Int×By}{a:Int}(h:Inv0 X)(hk:1<=k.1/\k.1<=7):Inv0 (aj5 k a X):=by
 unfold aj5
 split
 ·split
  ·exact Inv0.back
  ·exact h
 split
 ·split
  ·exact ⟨h.kinds,h.st⟩
  split
  ·exact Inv0.back
  split
  ·exact Inv0.back
  ·exact ⟨h.kinds,h.st⟩
 split
 ·split
  ·exact Inv0.addF ⟨h.kinds,h.st⟩
  split
  ·exact Inv0.addF ⟨h.kinds,h.st⟩
  split
  ·exact (h.sil hk).addF
  ·exact h.addF
 split
 ·split
  ·exact Inv0.addF ⟨h.kinds,by show 3<=(5:Int)/\(5:Int)<=5;omega⟩
  split
  ·exact Inv0.addF ⟨h.kinds,by show 3<=(4:Int)/\(4:Int)<=5;omega⟩
  split
  ·exact Inv0.addF ⟨h.kinds,by show 3<=(4:Int)/\(4:Int)<=5;omega⟩
  ·exact Inv0.addF ⟨h.kinds,by show 3<=(4:Int)/\(4:Int)<=5;omega⟩
 split
 ·split
  ·exact h.sil hk
  ·exact h
 ·exact h
theorem Inv.tell {T:TX}(h:Inv T)(a:Int):Inv (as5 a T):=by
 unfold as5
 split
 ·exact h
 ·rename_i k l hq
  have hkm:k∈T.que:=by rw [hq];exact List.mem_cons_self ..
  by_cases h6:6<=T.st
  ·have h7:k.1=7:=h.seven h6 k hkm
   have e:aj5 k a (popT T)=popT T:=by unfold aj5;rw [if_neg (by omega),if_neg (by omega),if_neg (by omega),if_neg (by omega),if_neg (by omega)]
   have hst:(popT T).st≠3/\(popT T).st≠4/\(popT T).st≠5:=by show T.st≠3/\T.st≠4/\T.st≠5;omega
   rw [e,aE4 hst]
   exact ⟨kOk_tail h.kinds,h.st,fun h6 k hk=>h.seven h6 k (List.mem_of_mem_tail hk),h.com⟩
  ·refine Inv.set 4 _ (Inv0.told ⟨kOk_tail h.kinds,?_⟩ (h.kinds k hkm))
   have:=h.st
   show 3<=T.st/\T.st<=5
   omega
theorem Inv.comT {T:TX}(hq:T.que=[]):Inv (comT T):=Inv.set 4 _ ⟨aR6 (by rw [hq];intro k hk;cases hk) (aR5 (by omega) _),by show 3<=(3:Int)/\(3:Int)<=5;omega⟩
theorem Inv.rolT (T:TX):Inv (rolT T):=Inv.set 4 _ Inv0.back
theorem Inv.done {T:TX}(h:Inv T)(hf:fin T):T.que=[]↔(6<=T.st/\T.que=[]):=by
 refine ⟨fun hq=>⟨?_,hq⟩,fun h=>h.2⟩
 have:=hf.resolve_left fun hn=>hn hq
 have:=h.st
 omega
theorem fin_tell {T:TX}(hf:fin T)(a:Int):fin (as5 a T):=by
 unfold as5
 split
 ·exact hf
 ·exact fin4 _
theorem tell_b (a:Int)(T:TX):(as5 a T).b=T.b/\(as5 a T).q=T.q/\(as5 a T).num=T.num/\(as5 a T).wat=T.wat:=by
 unfold as5
 split
 ·exact ⟨rfl,rfl,rfl,rfl⟩
 ·rename_i k l _
  have h1:=told_b k a (popT T)
  have h2:=ba1 4 (aj5 k a (popT T))
  refine ⟨h2.1.trans h1.1,h2.2.trans h1.2.1,(aP2 4 _).trans h1.2.2.1,?_⟩
  have hw:∀(f:Nat) (T:TX),(setT f T).wat=T.wat:=by
   intro f
   induction f with
   | zero=>intro T;rfl
   | succ f ih=>
    intro T
    unfold setT
    split
    ·split
     ·rw [ih];exact (aR2 T).2.2
     split
     ·rw [ih];exact (bg4 T).2.2
     ·rfl
    ·rfl
  exact (hw 4 _).trans h1.2.2.2
theorem BT.tell {n:Nat}{T:TX}(h:BT n T)(hn:20<=n)(hw:∀x∈T.wat,x.size<=40)(a:Int):BT (n+1) (as5 a T):=by
 unfold as5
 split
 ·exact h.mono (Nat.le_succ n)
 ·rename_i k l hq
  have hk:k.2.size<=40:=h.nque k (by rw [hq];exact List.mem_cons_self ..)
  exact BT.set (by omega) 4 ((h.pop).told hn hk) (by rw [(told_b k a (popT T)).2.2.2];exact hw)
theorem aF9 :∀(f:Nat) (T:TX),(setL f T).length<=f
 | 0,_=>by simp [setL]
 | f+1,T=>by
  unfold setL
  split
  ·split
   ·have:=aF9 f (aj1 T);have:=bv1 T;simp;omega
   split
   ·have:=aF9 f (endT T);have:=endL_len T;simp;omega
   ·simp
  ·simp
theorem aQ3 (a:Int)(T:TX):(ax7 a T).length<=4:=by
 unfold ax7
 split
 ·simp
 ·exact aF9 4 _
theorem mgrQ_step {T:TX}(h:T.que≠[])(lg:List By)(a:Int)(x:List Int):mgrQ T lg (a::x)=mgrQ (as5 a T) (lg++ax7 a T) x:=by
 show (match T.que with | []=>_ | _::_=>mgrQ (as5 a T) (lg++ax7 a T) x)=_
 cases hq:T.que with
 | nil=>exact absurd hq h
 | cons k l=>rfl
theorem bw6 {T:TX}{k:Int×By}{l:List (Int×By)}(h:T.que=k::l)(lg:List By):mgrQ T lg []=.stop k lg:=by
 show (match T.que with | []=>_ | k::_=>Rs.stop k lg)=_
 rw [h]
theorem bw7 {T:TX}(h:T.que=[])(lg:List By):mgrQ T lg []=.over T.com T.mix T.haz T.dbt lg:=by
 show (match T.que with | []=>_ | k::_=>Rs.stop k lg)=_
 rw [h]
def lnOf (T:TX):List Nat:=if T.que=[] then [] else [T.b]
theorem aV4 {T:TX}(h:Inv T)(hf:fin T):aq6 T [T.b]=lnOf T:=by
 unfold aq6 lnOf
 by_cases hq:T.que=[]
 ·rw [if_pos ((h.done hf).1 hq),if_pos hq]
  unfold delN
  rw [List.filter_cons,decide_eq_true rfl]
  rfl
 ·rw [if_neg (fun hh=>hq hh.2),if_neg hq]
end Go.Proofs.YtnpjififnhjbbaaDoor.E
set_option maxRecDepth 100000
namespace Go.Proofs.YtnpjififnhjbbaaDoor.E
open Go
structure One (s:List O)(m mp:Nat)(op:Bool)(lg:List By)(n:Nat)(T:TX):Prop where
 mg:MgR s m mp 2 op lg [T] (lnOf T)
 inv:Inv T
 fin:fin T
 bt:BT n T
 n20:20<=n
 wat:∀x∈T.wat,x.size<=40
 num:T.num=1
theorem One.next {s:List O}{m mp:Nat}{op:Bool}{lg:List By}{n:Nat}{T:TX}(h:One s m mp op lg n T){k:Int×By}{l:List (Int×By)}(hq:T.que=k::l):∃s',RZ.R ae6 [vO m 0] s=some (.ret [vA [vI 1,vI k.1,vS k.2],vI 0] s')/\One s' m mp true lg n T:=by
 have hl:lnOf T=[T.b]:=by unfold lnOf;rw [if_neg (by rw [hq];simp)]
 have hm:=h.mg
 rw [hl] at hm
 obtain ⟨s',q1,q2⟩:=Next_is hm (i:=0) (T:=T) rfl rfl hq
 rw [h.num] at q1
 exact ⟨s',q1,⟨by rw [hl];exact q2,h.inv,h.fin,h.bt,h.n20,h.wat,h.num⟩⟩
theorem One.tell {s:List O}{m mp:Nat}{lg:List By}{n:Nat}{T:TX}(h:One s m mp true lg n T){k:Int×By}{l:List (Int×By)}(hq:T.que=k::l){a:Int}(ha:1<=a/\a<=most k.1)(hn:n<=19000)(hlg:lg.length<=80000):∃s',RZ.R af0 [vO m 0,vI a] s=some (.ret [vI 0] s')/\One s' m mp false (lg++ax7 a T) (n+1) (as5 a T):=by
 have hl:lnOf T=[T.b]:=by unfold lnOf;rw [if_neg (by rw [hq];simp)]
 have hm:=h.mg
 rw [hl] at hm
 obtain ⟨s',q1,q2⟩:=Tell_is hm (i:=0) (T:=T) rfl rfl hq (h.inv.kinds k (by rw [hq];exact List.mem_cons_self ..)) ha ⟨h.n20,hn⟩ h.bt h.wat (by omega) (by simp)
 have hb:=tell_b a T
 have hi:=h.inv.tell a
 have hf:=fin_tell h.fin a
 refine ⟨s',q1,⟨?_,hi,hf,h.bt.tell h.n20 h.wat a,by have:=h.n20;omega,by rw [hb.2.2.2];exact h.wat,by rw [hb.2.2.1];exact h.num⟩⟩
 rw [←hb.1,aV4 hi hf] at q2
 exact q2
theorem One.log {s:List O}{m mp:Nat}{op:Bool}{lg:List By}{n:Nat}{T:TX}(h:One s m mp op lg n T)(hlg:lg.length<=80000):∃s' v,RZ.R aj6 [vO m 0] s=some (.ret [v] s')/\isL 1 (aa1 lg) v/\One s' m mp op lg n T:=by
 obtain ⟨s',v,q1,q2,q3⟩:=Log_is h.mg (by omega)
 exact ⟨s',v,q1,q2,⟨q3,h.inv,h.fin,h.bt,h.n20,h.wat,h.num⟩⟩
structure Beg (s:List O)(m mp:Nat)(T:TX):Prop where
 mg:MgR s m mp 2 false [] [T] []
 eq:T=newT T.b T.q 1 T.res T.wat
theorem begin_is :∃s b q,RZ.R am1 [vO 1 0,vI 0] [O.map [] 0,.box (boxM ⟨0,1,.list false 0 [],true,false⟩ (.list false 1 []) true)]=some (.ret [vI 1,vI 0] s)/\Beg s 1 0 (newT b q 1 [] []):=by
 obtain ⟨s,b,q,h1,h2⟩:=Begin_is (tx:=[]) New_R (by simp)
 exact ⟨s,b,q,h1,⟨h2,rfl⟩⟩
theorem Beg.enlist {s:List O}{m mp:Nat}{T:TX}(h:Beg s m mp T){x:By}(hx:aE3 x=true)(hh:hasS x T.res=false)(hl:T.res.length<20):∃s',RZ.R ae8 [vO m 0,vI 1,vS x] s=some (.ret [vI 0] s')/\Beg s' m mp {T with res:=T.res++[x]}:=by
 obtain ⟨s',q1,q2⟩:=bD9 h.mg (i:=0) (T:=T) rfl hx (by rw [h.eq];rfl) hh hl
 refine ⟨s',q1,⟨q2,?_⟩⟩
 have:=h.eq
 generalize hb:T.b=b at this
 generalize hq:T.q=q at this
 rw [this];rfl
theorem newT_bt {b q:Nat}{res wat:List By}(hr:res.length<=20)(hw:wat.length<=20)(hs:∀x∈res,x.size<=40)(num:Int)(hn:0<=num/\num<100):BT 20 (newT b q num res wat):=
 ⟨hr,hw,hn,by simp [newT],by simp [newT],by simp [newT],by simp [newT],by simp [newT],hs,(fun x hx=>by cases hx),(fun k hk=>by cases hk),(fun e he=>by cases he)⟩
theorem Beg.commit {s:List O}{m mp:Nat}{T:TX}(h:Beg s m mp T)(hr:T.res.length<=20)(hw:T.wat.length<=20)(hs:∀x∈T.res,x.size<=40)(hs2:∀x∈T.wat,x.size<=40):∃s',RZ.R ag0 [vO m 0,vI 1] s=some (.ret [vI 0] s')/\One s' m mp false (comL T) 20 (comT T):=by
 have hB:BT 20 T:=by rw [h.eq];exact newT_bt hr hw hs 1 (by omega)
 have hq:T.que=[]:=by rw [h.eq];rfl
 obtain ⟨s',q1,q2⟩:=bE0 (tx:=[T]) h.mg (by simp) (i:=0) (T:=T) rfl (by rw [h.eq];rfl) hq (n:=20) (by omega) hB hs2 (by simp) (by simp)
 have hi:Inv (comT T):=Inv.comT hq
 have hf:fin (comT T):=fin4 _
 have hb:=ba1 4 {T with st:=3,que:=T.que++T.wat.map fun s=>((1:Int),s)}
 have hwat:∀(f:Nat) (T:TX),(setT f T).wat=T.wat:=by
  intro f
  induction f with
  | zero=>intro T;rfl
  | succ f ih=>
   intro T
   unfold setT
   split
   ·split
    ·rw [ih];exact (aR2 T).2.2
    split
    ·rw [ih];exact (bg4 T).2.2
    ·rfl
   ·rfl
 refine ⟨s',q1,⟨?_,hi,hf,?_,by omega,?_,?_⟩⟩
 ·have e:aq6 (comT T) ([]++[T.b])=lnOf (comT T):=by
   rw [←aV4 hi hf]
   show aq6 (comT T) [T.b]=aq6 (comT T) [(comT T).b]
   rw [show (comT T).b=T.b from hb.1]
  rw [e] at q2
  exact q2
 ·refine BT.set (by omega) 4 (n:=20) ⟨hB.res,hB.wat,hB.num,?_,hB.yes,hB.dbt,hB.fgt,hB.rest,hB.nres,hB.nyes,fun k hk=>?_,hB.qt⟩ hs2
  ·show (T.que++T.wat.map fun x=>((1:Int),x)).length<=20
   rw [hq];simpa using hw
  ·have hk:k∈T.que++T.wat.map fun x=>((1:Int),x):=hk
   rw [hq,List.nil_append] at hk
   exact hs2 _ (ay0 hk)
 ·show ∀x∈(setT 4 _).wat,_
  rw [hwat];exact hs2
 ·show (setT 4 _).num=1
  rw [aP2];rw [h.eq];rfl
end Go.Proofs.YtnpjififnhjbbaaDoor.E
set_option maxRecDepth 100000
namespace Go.Proofs.YtnpjififnhjbbaaDoor.E
open Go
def nA :By:=⟨#[97]⟩
def nB :By:=⟨#[98]⟩
def wants :List V:=[vA [vI 1,vI 2,vS nA],vA [vI 1,vI 2,vS nB],vA [vI 1,vI 3,vS nA],vA [vI 1,vI 3,vS nB]]
def Ta (b q:Nat):TX:=newT b q 1 [nA,nB] []
theorem bh1 {s:List O}{lg:List By}{n:Nat}{T:TX}(h:One s 1 0 false lg n T){k:Int×By}{l:List (Int×By)}(hq:T.que=k::l){i:Nat}(hi:i<4)(hw:wants[i]? =some (vA [vI 1,vI k.1,vS k.2]))(hn:n<=19000)(hlg:lg.length<=80000)(hk:1<=most k.1):∃s',One s' 1 0 false (lg++ax7 1 T) (n+1) (as5 1 T)/\∀o,ah4.L0 RZ (vO 1 0) 0 0 wants 4 ((i+1:Nat):Int) s'=some o->ah4.L0 RZ (vO 1 0) 0 0 wants 4 i s=some o:=by
 obtain ⟨s1,a1,a2⟩:=h.next hq
 obtain ⟨s2,b1,b2⟩:=a2.tell hq (a:=1) ⟨by omega,hk⟩ hn hlg
 refine ⟨s2,b2,fun o ho=>?_⟩
 apply ah4.ag4
 unfold ah4.L0b
 rw [show decide ((i:Int)<4)=true from decide_eq_true (by omega),cond_true,aK6 hw]
 simp only [V.cells,aC_v,aI_v,aS_v,aN_v]
 rw [cT_v a1]
 simp only [aT_v,aA_v,aC_v,aI_v,aS_v,aN_v,show ((0:Int) !=z0)=false from rfl,cond_false,beq_self_eq_true,byBeq,decide_true,Bool.and_true,Bool.not_true]
 rw [ck_t (by rfl),cS_v b1]
 simp only [aI_v]
 rw [ck_t (by rfl),ck_t (by rfl)]
 apply ah4.ak6
 unfold ah4.J1b
 rw [show ((0:Int) !=z0)=false from rfl,cond_false,w6_1 (by omega)]
 exact ho
def U1 (b q:Nat):TX:=comT (Ta b q)
def U2 (b q:Nat):TX:=as5 1 (U1 b q)
def U3 (b q:Nat):TX:=as5 1 (U2 b q)
def U4 (b q:Nat):TX:=as5 1 (U3 b q)
theorem uq1 (b q:Nat):(U1 b q).que=[(2,nA),(2,nB)]:=by kernel_rfl
theorem uq2 (b q:Nat):(U2 b q).que=[(2,nB)]:=by kernel_rfl
theorem uq3 (b q:Nat):(U3 b q).que=[(3,nA),(3,nB)]:=by kernel_rfl
theorem uq4 (b q:Nat):(U4 b q).que=[(3,nB)]:=by kernel_rfl
theorem ul (b q:Nat):(((comL (Ta b q)++ax7 1 (U1 b q))++ax7 1 (U2 b q))++ax7 1 (U3 b q))++ax7 1 (U4 b q)=[cmtB 1 [nA,nB],endB 1]:=by kernel_rfl
theorem ucm :cmtB 1 [nA,nB]=⟨#[99,111,109,109,105,116,32,49,32,97,32,98]⟩:=by kernel_rfl
theorem nmA :aE3 nA=true:=by kernel_rfl
theorem nmB :aE3 nB=true:=by kernel_rfl
theorem uen :endB 1=⟨#[101,110,100,32,49]⟩:=by kernel_rfl
theorem aw_end {s:List O}{n:Nat}{T:TX}(h:One s 1 0 false [cmtB 1 [nA,nB],endB 1] n T):∃s',ah4.L0 RZ (vO 1 0) 0 0 wants 4 ((4:Nat):Int) s=some (.ret [vB true] s'):=by
 obtain ⟨s',v,q1,q2,q3⟩:=h.log (by simp)
 obtain ⟨nn,_,e⟩:=q2.aL
 refine ⟨s',?_⟩
 apply ah4.ag4
 unfold ah4.L0b
 rw [show decide (((4:Nat):Int)<4)=false from rfl,cond_false,show ((0:Int)==z0)=true from rfl,cond_true,cond_true,ck_t (by rfl),cS_v q1,e]
 have hlit:[vS (⟨#[99,111,109,109,105,116,32,49,32,97,32,98]⟩:By),vS (⟨#[101,110,100,32,49]⟩:By)]=aa1 [cmtB 1 [nA,nB],endB 1]:=by rw [ucm,uen];rfl
 rw [hlit,ck_t (by simp [ac0,aj2,ag7]),bh5 (by simp),cP_B,aB_v,decide_eq_true rfl]
 exact ah4.ar1 _ _ rfl
theorem awake_is :∃s,RZ.R af9 [] []=some (.ret [.bool true] s):=by
 obtain ⟨s1,b,q,a1,a2⟩:=begin_is
 obtain ⟨s2,b1,b2⟩:=a2.enlist nmA rfl (by simp [newT])
 obtain ⟨s3,c1,c2⟩:=b2.enlist nmB (by show hasS nB [nA]=false;kernel_rfl) (by simp [newT])
 have c2:Beg s3 1 0 (Ta b q):=c2
 obtain ⟨s4,d1,d2⟩:=c2.commit (by simp [Ta,newT]) (by simp [Ta,newT]) (by
  intro x hx
  have hx:x∈[nA,nB]:=hx
  simp only [List.mem_cons,List.not_mem_nil,or_false] at hx
  rcases hx with rfl | rfl
  ·show (1:Nat)<=40;omega
  ·show (1:Nat)<=40;omega) (by intro x hx;cases hx)
 have hl1:∀l:List By,l=[cmtB 1 [nA,nB],endB 1]->l.length<=80000:=fun l h=>by rw [h];simp
 have hlen:=ul b q
 have t0:(comL (Ta b q)).length<=4:=aF9 4 _
 have t1:=aQ3 1 (comT (Ta b q))
 have t2:=aQ3 1 (as5 1 (comT (Ta b q)))
 have t3:=aQ3 1 (as5 1 (as5 1 (comT (Ta b q))))
 obtain ⟨s5,e1,e2⟩:=bh1 d2 (uq1 b q) (i:=0) (by omega) rfl (by omega) (by omega) (by decide)
 obtain ⟨s6,f1,f2⟩:=bh1 e1 (uq2 b q) (i:=1) (by omega) rfl (by omega) (by rw [List.length_append];omega) (by decide)
 obtain ⟨s7,g1,g2⟩:=bh1 f1 (uq3 b q) (i:=2) (by omega) rfl (by omega) (by rw [List.length_append,List.length_append];omega) (by decide)
 obtain ⟨s8,h1,h2⟩:=bh1 g1 (uq4 b q) (i:=3) (by omega) rfl (by omega) (by rw [List.length_append,List.length_append,List.length_append];omega) (by decide)
 have h1:One s8 1 0 false (((((comL (Ta b q)++ax7 1 (U1 b q))++ax7 1 (U2 b q))++ax7 1 (U3 b q))++ax7 1 (U4 b q))) _ _:=h1
 rw [hlen] at h1
 obtain ⟨s9,k1⟩:=aw_end h1
 have b1:RZ.R ae8 [vO 1 0,vI 1,vS (⟨#[97]⟩:By)] s1=some (.ret [vI 0] s2):=b1
 have c1:RZ.R ae8 [vO 1 0,vI 1,vS (⟨#[98]⟩:By)] s2=some (.ret [vI 0] s3):=c1
 refine ⟨s9,?_⟩
 apply ah4.b_of
 unfold ah4.b
 rw [cS_v New_is]
 simp only [at0,cond_false]
 rw [ck_t (by rfl),cT_v a1]
 simp only [aT_v,aC_v,aI_v,aN_v]
 rw [ck_t (by rfl),cS_v b1,aI_v,ck_t (by rfl),cS_v c1,aI_v,ck_t (by rfl),cS_v d1,aI_v]
 exact e2 _ (f2 _ (g2 _ (h2 _ k1)))
end Go.Proofs.YtnpjififnhjbbaaDoor.E
set_option maxRecDepth 100000
namespace Go.Proofs.YtnpjififnhjbbaaDoor.E
open Go
theorem awk {K:V->R}{KP:V->R}{o:Out}(h:K (.bool true)=some o):cP (RZ.R af9 [] []) K KP=some o:=by
 obtain ⟨s,hs⟩:=awake_is
 rw [hs,cP_B];exact h
section
variable {m1 m3 b5 m6:Bool} {res wat:List By} (hres:ah7 res=true) (hwat:ah7 wat=true) (hm3:aa1 wat≠[]->m3=true) {ans:List Int} (hans:ans.length<=150)
end
theorem told_no {mo:Bool}{eo:List V}{vl vd:V}{com mix haz over unc:Bool}{L d:List By}(h1:ac0 eo=true)(h2:isL 1 (aa1 L) vl)(h3:isL 1 (aa1 d) vd):aj2 (vA [vL mo 3 eo,vl,vB com,vB mix,vB haz,vd,vB over,vB unc])=true:=by
 have h4:=bw1 h2
 have h5:=bw1 h3
 simp [aj2,ac0,h1,h4,h5]
section
variable {m1 m3 b5 m6:Bool} {res wat:List By} (hres:ah7 res=true) (hwat:ah7 wat=true) (hm3:aa1 wat≠[]->m3=true)
end
end Go.Proofs.YtnpjififnhjbbaaDoor.E
set_option maxRecDepth 100000
namespace Go.Proofs.YtnpjififnhjbbaaDoor.E
open Go
theorem aL3 (mo:Bool)(eo:List V)(K:Bool->List V->R):aL 3 (vL mo 3 eo) K=K mo eo:=by
 show aw7 3 _ K=_;unfold aw7;simp only [if_true]
theorem intsV_at {l:List Int}{i:Nat}{x:Int}(h:l[i]? =some x)(K:V->R):idxK (af5 l) (i:Int) K=K (vI x):=aK6 (by unfold af5;rw [List.getElem?_map,h];rfl) K
theorem last_at {pre:List V}{x:V}(hp:pre.length<=1001)(K:V->R):idxK (pre++[x]) (w6 ((((pre++[x]).length:Nat):Int)-z1)) K=K x:=by
 have e:w6 ((((pre++[x]).length:Nat):Int)-z1)=(pre.length:Nat):=by
  rw [List.length_append]
  show w6 (((pre.length+1:Nat):Int)-1)=_
  rw [bs5 (by omega)];omega
 rw [e]
 exact aK6 (by simp) K
section
variable {m1 m3 b5 m6:Bool} {res wat:List By} (hres:ah7 res=true) (hwat:ah7 wat=true) (hm3:aa1 wat≠[]->m3=true) {ans:List Int} (hans:ans.length<=150)
end
section
variable {m1 m3 b5 m6:Bool} {res wat:List By} (hres:ah7 res=true) (hwat:ah7 wat=true) (hm3:aa1 wat≠[]->m3=true) {ans:List Int} (hans:ans.length<=150)
theorem nm_at {l:List By}(h:ah7 l=true){i:Nat}{x:By}(hx:l[i]? =some x):aE3 x=true/\hasS x (l.take i)=false:=(ar3 h).2 i x hx
theorem bf1 {l:List By}(h:ah7 l=true):∀x∈l,x.size<=40:=fun x hx=>by
 obtain ⟨j,hj⟩:=List.getElem?_of_mem hx
 have:=aK3 ((ar3 h).2 j x hj).1
 omega
end
end Go.Proofs.YtnpjififnhjbbaaDoor.E
