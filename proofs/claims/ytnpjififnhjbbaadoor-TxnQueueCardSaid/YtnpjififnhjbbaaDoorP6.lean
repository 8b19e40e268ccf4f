/- It is proved that TxnQueue's evaluation answers true. No condition beyond the lemmas' own. -/
import Derived.Test.YtnpjififnhjbbaaDoorP5
set_option maxRecDepth 100000
namespace Go.Proofs.YtnpjififnhjbbaaDoor.E
open Go
def lnQ (tx:List TX):List Nat:=tx.flatMap lnOf
theorem lnQ_app (p r:List TX):lnQ (p++r)=lnQ p++lnQ r:=by unfold lnQ;rw [List.flatMap_append]
theorem bC9 (T:TX)(r:List TX):lnQ (T::r)=lnOf T++lnQ r:=by unfold lnQ;rw [List.flatMap_cons]
theorem lnOf_len (T:TX):(lnOf T).length<=1:=by unfold lnOf;split<;>simp
theorem lnQ_len (p:List TX):(lnQ p).length<=p.length:=by
 induction p with
 | nil=>exact Nat.le_refl _
 | cons T r ih=>rw [bC9,List.length_append,List.length_cons];have:=lnOf_len T;omega
theorem lnQ_mem {p:List TX}{y:Nat}(h:y∈lnQ p):∃X∈p,X.b=y:=by
 unfold lnQ at h
 obtain ⟨X,h1,h2⟩:=List.mem_flatMap.1 h
 unfold lnOf at h2
 split at h2
 ·cases h2
 ·exact ⟨X,h1,(List.mem_singleton.1 h2).symm⟩
theorem delN_ne {b:Nat}{l:List Nat}(h:∀y∈l,y≠b):delN b l=l:=by
 unfold delN
 rw [List.filter_eq_self]
 intro y hy
 rw [decide_eq_false (fun e=>h y hy e.symm)];rfl
theorem delN_app (b:Nat)(l r:List Nat):delN b (l++r)=delN b l++delN b r:=by unfold delN;rw [List.filter_append]
theorem bD6 (b:Nat):delN b [b]=[]:=by unfold delN;rw [List.filter_cons,decide_eq_true rfl];rfl
theorem lnA {p:List TX}{T:TX}{b:Nat}(hb:T.b=b)(hi:Inv T)(hf:fin T)(hp:∀X∈p,X.b≠b):aq6 T (lnQ p++[b])=lnQ p++lnOf T:=by
 have hn:∀y∈lnQ p,y≠b:=fun y hy=>by obtain ⟨X,h1,h2⟩:=lnQ_mem hy;rw [←h2];exact hp X h1
 unfold aq6 lnOf
 by_cases hq:T.que=[]
 ·rw [if_pos ((hi.done hf).1 hq),if_pos hq,hb,delN_app,delN_ne hn,bD6]
 ·rw [if_neg (fun hh=>hq hh.2),if_neg hq,hb]
theorem lnB {r:List TX}{T:TX}{b:Nat}(hb:T.b=b)(hi:Inv T)(hf:fin T)(hp:∀X∈r,X.b≠b):aq6 T (b::lnQ r)=lnOf T++lnQ r:=by
 have hn:∀y∈lnQ r,y≠b:=fun y hy=>by obtain ⟨X,h1,h2⟩:=lnQ_mem hy;rw [←h2];exact hp X h1
 unfold aq6 lnOf
 by_cases hq:T.que=[]
 ·rw [if_pos ((hi.done hf).1 hq),if_pos hq,hb,show b::lnQ r=[b]++lnQ r from rfl,delN_app,delN_ne hn,bD6]
 ·rw [if_neg (fun hh=>hq hh.2),if_neg hq,hb];rfl
theorem bD2 {α:Type}(p:List α)(T T':α)(r:List α):(p++T::r).set p.length T'=p++T'::r:=by
 induction p with
 | nil=>rfl
 | cons x p ih=>show x::(p++T::r).set p.length T'=_;rw [ih];rfl
theorem bC3 {α:Type}(p:List α)(T:α)(r:List α):(p++T::r)[p.length]? =some T:=by simp
theorem MgR.nd {s:List O}{m mp:Nat}{nx:Int}{op:Bool}{lg:List By}{tx:List TX}{ln:List Nat}(h:MgR s m mp nx op lg tx ln){i j:Nat}{T U:TX}(hi:tx[i]? =some T)(hj:tx[j]? =some U)(hb:T.b=U.b):i=j:=by
 obtain ⟨M,gv,col,_,_,_,hC,_⟩:=h
 obtain ⟨_,c,r,_,_,h1,_⟩:=hC.tx i T hi
 obtain ⟨_,c',r',_,_,h2,_⟩:=hC.tx j U hj
 rw [hb] at h1;omega
theorem MgR.ne_r {s:List O}{m mp:Nat}{nx:Int}{op:Bool}{lg:List By}{p r:List TX}{T:TX}{ln:List Nat}(h:MgR s m mp nx op lg (p++T::r) ln):∀X∈r,X.b≠T.b:=by
 intro X hX e
 obtain ⟨j,hj⟩:=List.getElem?_of_mem hX
 have:=h.nd (i:=p.length+1+j) (j:=p.length) (T:=X) (U:=T) (by rw [List.getElem?_append_right (by omega),show p.length+1+j-p.length=j+1 by omega];simpa using hj) (bC3 ..) e
 omega
theorem MgR.ne_p {s:List O}{m mp:Nat}{nx:Int}{op:Bool}{lg:List By}{p r:List TX}{T:TX}{ln:List Nat}(h:MgR s m mp nx op lg (p++T::r) ln):∀X∈p,X.b≠T.b:=by
 intro X hX e
 obtain ⟨j,hj⟩:=List.getElem?_of_mem hX
 have hjl:=ad9 hj
 have:=h.nd (i:=j) (j:=p.length) (T:=X) (U:=T) (by rw [List.getElem?_append_left hjl];exact hj) (bC3 ..) e
 omega
structure Cur (s:List O)(op:Bool)(lg:List By)(n:Nat)(p:List TX)(T:TX)(r:List TX):Prop where
 mg:MgR s 1 0 (((p++T::r).length:Int)+1) op lg (p++T::r) (lnOf T++lnQ r)
 inv:Inv T
 fin:fin T
 bt:BT n T
 n20:20<=n
 wat:T.wat=[]
 num:T.num=(p.length:Int)+1
 len:(p++T::r).length<=5
theorem Cur.w40 {s:List O}{op:Bool}{lg:List By}{n:Nat}{p r:List TX}{T:TX}(h:Cur s op lg n p T r):∀x∈T.wat,x.size<=40:=by
 intro x hx;rw [h.wat] at hx;cases hx
theorem Cur.next {s:List O}{op:Bool}{lg:List By}{n:Nat}{p r:List TX}{T:TX}(h:Cur s op lg n p T r){k:Int×By}{l:List (Int×By)}(hq:T.que=k::l):∃s',RZ.R ae6 [vO 1 0] s=some (.ret [vA [vI ((p.length:Int)+1),vI k.1,vS k.2],vI 0] s')/\Cur s' true lg n p T r:=by
 have hl:lnOf T=[T.b]:=by unfold lnOf;rw [if_neg (by rw [hq];simp)]
 have hm:=h.mg
 rw [hl] at hm
 obtain ⟨s',q1,q2⟩:=Next_is (ln:=lnQ r) hm (i:=p.length) (T:=T) (bC3 ..) rfl hq
 rw [h.num] at q1
 exact ⟨s',q1,⟨by rw [hl];exact q2,h.inv,h.fin,h.bt,h.n20,h.wat,h.num,h.len⟩⟩
theorem Cur.tell {s:List O}{lg:List By}{n:Nat}{p r:List TX}{T:TX}(h:Cur s true lg n p T r){k:Int×By}{l:List (Int×By)}(hq:T.que=k::l){a:Int}(ha:1<=a/\a<=most k.1)(hn:n<=19000)(hlg:lg.length<=80000):∃s',RZ.R af0 [vO 1 0,vI a] s=some (.ret [vI 0] s')/\Cur s' false (lg++ax7 a T) (n+1) p (as5 a T) r:=by
 have hl:lnOf T=[T.b]:=by unfold lnOf;rw [if_neg (by rw [hq];simp)]
 have hm:=h.mg
 rw [hl] at hm
 have hlen:=h.len
 have hrl:r.length<=5:=by rw [List.length_append,List.length_cons] at hlen;omega
 obtain ⟨s',q1,q2⟩:=Tell_is (ln:=lnQ r) hm (i:=p.length) (T:=T) (bC3 ..) rfl hq (h.inv.kinds k (by rw [hq];exact List.mem_cons_self ..)) ha ⟨h.n20,hn⟩ h.bt h.w40 (by omega) (by rw [List.length_cons];have:=lnQ_len r;omega)
 have hb:=tell_b a T
 have hi:=h.inv.tell a
 have hf:=fin_tell h.fin a
 rw [bD2,lnB hb.1 hi hf hm.ne_r] at q2
 refine ⟨s',q1,⟨?_,hi,hf,h.bt.tell h.n20 h.w40 a,by have:=h.n20;omega,by rw [hb.2.2.2];exact h.wat,by rw [hb.2.2.1];exact h.num,?_⟩⟩
 ·rw [show (p++as5 a T::r).length=(p++T::r).length by simp];exact q2
 ·rw [show (p++as5 a T::r).length=(p++T::r).length by simp];exact hlen
theorem Cur.again {s:List O}{lg:List By}{n:Nat}{p r:List TX}{T:TX}(h:Cur s false lg n p T r)(a:Int):∃e,(e=9∨e=8)/\RZ.R af0 [vO 1 0,vI a] s=some (.ret [vI e] s):=by
 have hm:=h.mg
 cases hl:lnOf T++lnQ r with
 | nil=>rw [hl] at hm;exact ⟨8,.inr rfl,Tell_nil hm a⟩
 | cons b ln=>rw [hl] at hm;exact ⟨9,.inl rfl,Tell_shut hm a⟩
theorem Cur.log {s:List O}{op:Bool}{lg:List By}{n:Nat}{p r:List TX}{T:TX}(h:Cur s op lg n p T r)(hlg:lg.length<=80000):∃s' v,RZ.R aj6 [vO 1 0] s=some (.ret [v] s')/\isL 1 (aa1 lg) v/\Cur s' op lg n p T r:=by
 obtain ⟨s',v,q1,q2,q3⟩:=Log_is h.mg (by omega)
 exact ⟨s',v,q1,q2,⟨q3,h.inv,h.fin,h.bt,h.n20,h.wat,h.num,h.len⟩⟩
structure Rst (s:List O)(op:Bool)(lg:List By)(p r:List TX):Prop where
 mg:MgR s 1 0 (((p++r).length:Int)+1) op lg (p++r) (lnQ r)
 len:(p++r).length<=5
structure Fsh (num:Int)(does:Bool)(res:List By)(T:TX):Prop where
 inv:Inv T
 fin:fin T
 bt:BT 20 T
 wat:T.wat=[]
 eq:∀x,bC8 num does res [] x=mgrQ T [] x
 num:T.num=num
theorem Rst.cur {s:List O}{op:Bool}{lg:List By}{p r:List TX}{T:TX}(h:Rst s op lg p (T::r)){num:Int}{does:Bool}{res:List By}(hf:Fsh num does res T)(hn:num=(p.length:Int)+1):Cur s op lg 20 p T r:=
 ⟨by have:=h.mg;rw [bC9] at this;exact this,hf.inv,hf.fin,hf.bt,Nat.le_refl _,hf.wat,hf.num.trans hn,h.len⟩
theorem Cur.over {s:List O}{op:Bool}{lg:List By}{n:Nat}{p r:List TX}{T:TX}(h:Cur s op lg n p T r)(hq:T.que=[]):Rst s op lg (p++[T]) r:=by
 have hl:lnOf T=[]:=by unfold lnOf;rw [if_pos hq]
 have hm:=h.mg
 rw [hl,List.nil_append] at hm
 exact ⟨by rw [List.append_assoc,List.singleton_append];exact hm,by rw [List.append_assoc,List.singleton_append];exact h.len⟩
def bD4 :Rs->List By | .stop _ L=>L | .over _ _ _ _ L=>L
theorem bD3 (X:TX)(lg:List By):bD4 (mgrQ X lg [])=lg:=by
 cases hq:X.que with
 | nil=>rw [bw7 hq];rfl
 | cons k l=>rw [bw6 hq];rfl
theorem bD1 (num:Int)(c:Bool)(res:List By):bD4 (bC8 num c res [] [])=[]:=by
 cases c with
 | true=>
  match res with
  | []=>rfl
  | [s]=>rfl
  | s::t::l=>rfl
 | false=>
  match res with
  | []=>rfl
  | s::l=>rfl
theorem comL_nil {T:TX}(h:New0 T)(hw:T.wat=[]):comL T=[]:=by
 have:=congrArg bD4 (commit_Q h [])
 rw [bD3,hw,bD1] at this
 exact this
theorem rolL_nil {T:TX}(h:New0 T)(hw:T.wat=[]):rolL T=[]:=by
 have:=congrArg bD4 (roll_Q h [])
 rw [bD3,hw,bD1] at this
 exact this
end Go.Proofs.YtnpjififnhjbbaaDoor.E
set_option maxRecDepth 100000
namespace Go.Proofs.YtnpjififnhjbbaaDoor.E
open Go
theorem bD7 (l r:List By):aa1 l++aa1 r=aa1 (l++r):=by unfold aa1;rw [List.map_append]
theorem bC5 (l:List Int):(af5 l).length=l.length:=List.length_map _
theorem bC7 :∀l:List Int,ac0 (af5 l)=true
 | []=>rfl
 | _::l=>bC7 l
def Want (T:TX)(num:Int)(eo:List V)(over:Bool):Prop:=(T.que=[]/\over=true)∨∃k l pre,T.que=k::l/\over=false/\eo=pre++[vA [vI num,vI k.1,vS k.2]]/\pre.length<=1001
theorem q_playK {num:Int}{does:Bool}{res:List By}(hres:ah7 res=true)(hnum:0<=num/\num<100){good:List Int}(hg:good.length<=1000){ma:Bool}(hm:af5 good≠[]->ma=true){T:TX}{lgi:List By}(heq:bC8 num does res [] good=mgrQ T lgi []){m12:Bool}{K:Bool->List V->Bool->List V->Bool->Bool->Bool->Bool->List V->Bool->Bool->R}{KP:V->R}(hK:∀m25 e26 m29 b33 b36 b39 m42 dl b46 b49,Want T num e26 b46->∃s',K m25 e26 m29 (aa1 lgi) b33 b36 b39 m42 (aa1 dl) b46 b49=some (.ret [vB true] s')):∃s',cP (RZ.R au5 [vI num,vB does,vL m12 1 (aa1 res),vL false 0 [],vL ma 1 (af5 good)] []) (fun v21=>aA v21 fun c22=>aC c22 fun v23 r24=>aL 3 v23 fun m25 e26=>aC r24 fun v27 r28=>aL 1 v27 fun m29 e30=>aC r28 fun v31 r32=>aB v31 fun b33=>aC r32 fun v34 r35=>aB v34 fun b36=>aC r35 fun v37 r38=>aB v37 fun b39=>aC r38 fun v40 r41=>aL 1 v40 fun m42 e43=>aC r41 fun v44 r45=>aB v44 fun b46=>aC r45 fun v47 r48=>aB v47 fun b49=>aN r48 (K m25 e26 m29 e30 b33 b36 b39 m42 e43 b46 b49)) KP=some (.ret [vB true] s'):=by
 have hr:=ar3 hres
 have hp:=Play_is (v3:=vL false 0 []) (wat:=[]) aq7 (by simp) (mn:=m12) (names:=res) (by omega) (bb2 hres) (bf1 hres) (commits:=does) (ma:=ma) (num:=num) hnum (ans:=good) hg hm
 rw [heq] at hp
 obtain ⟨s2,mo,eo,vl,com,mix,haz,vd,over,unc,p1,⟨p2,p3⟩,p4⟩:=hp
 have go:∀(d:List By),isL 1 (aa1 lgi) vl->isL 1 (aa1 d) vd->Want T num eo over->∃s',cP (RZ.R au5 [vI num,vB does,vL m12 1 (aa1 res),vL false 0 [],vL ma 1 (af5 good)] []) (fun v21=>aA v21 fun c22=>aC c22 fun v23 r24=>aL 3 v23 fun m25 e26=>aC r24 fun v27 r28=>aL 1 v27 fun m29 e30=>aC r28 fun v31 r32=>aB v31 fun b33=>aC r32 fun v34 r35=>aB v34 fun b36=>aC r35 fun v37 r38=>aB v37 fun b39=>aC r38 fun v40 r41=>aL 1 v40 fun m42 e43=>aC r41 fun v44 r45=>aB v44 fun b46=>aC r45 fun v47 r48=>aB v47 fun b49=>aN r48 (K m25 e26 m29 e30 b33 b36 b39 m42 e43 b46 b49)) KP=some (.ret [vB true] s'):=by
  intro d h1 h2 hw
  obtain ⟨nl,_,el⟩:=h1.aL
  obtain ⟨nd,_,ed⟩:=h2.aL
  obtain ⟨s',q⟩:=hK mo eo nl com mix haz nd d over unc hw
  refine ⟨s',?_⟩
  rw [cP_v p1 (told_no p2 h1 h2)]
  simp -implicitDefEqProofs only [aA_v,aC_v,aL3,el,aB_v,ed,aN_v]
  exact q
 cases hq:T.que with
 | nil=>
  rw [bw7 hq] at p4
  obtain ⟨r1,r2,r3,r4,r5,r6⟩:=p4
  exact go T.dbt r2 r6 (.inl ⟨hq,r1⟩)
 | cons k l=>
  rw [bw6 hq] at p4
  obtain ⟨r1,r2,⟨pre,r3,r3l⟩,d,r4⟩:=p4
  exact go d r2 r4 (.inr ⟨k,l,pre,hq,r1,r3,r3l⟩)
def rawA (x:Int):Int:=w6 (z1+((w6 ((x.tmod 5)+5)).tmod 5))
theorem rawA_1 (x:Int):1<=rawA x:=by
 have h1:=Int.tmod_lt_of_pos x (b:=5) (by omega)
 have h2:=Int.lt_tmod_of_pos x (b:=5) (by omega)
 unfold rawA
 rw [bs5 (n:=x.tmod 5+5) (by omega)]
 have h3:=Int.tmod_nonneg (a:=x.tmod 5+5) 5 (by omega)
 have h4:=Int.tmod_lt_of_pos (x.tmod 5+5) (b:=5) (by omega)
 rw [bs5 (by show -9223372036854775808<=(1:Int)+_/\(1:Int)+_<=_;omega)]
 show (1:Int)<=1+_
 omega
theorem most_1 {k:Int}(h:1<=k/\k<=7):1<=most k:=by
 have:k=1∨k=2∨k=3∨k=4∨k=5∨k=6∨k=7:=by omega
 rcases this with e | e | e | e | e | e | e<;>rw [e]<;>decide
theorem ans_J (x k:Int)(h:1<=k/\k<=7):1<=(bif decide (rawA x>most k) then z1 else rawA x)/\(bif decide (rawA x>most k) then z1 else rawA x)<=most k:=by
 have h1:=rawA_1 x
 have h2:=most_1 h
 by_cases hx:rawA x>most k
 ·rw [decide_eq_true hx,cond_true];exact ⟨by decide,h2⟩
 ·rw [decide_eq_false hx,cond_false];omega
end Go.Proofs.YtnpjififnhjbbaaDoor.E
set_option maxRecDepth 100000
namespace Go.Proofs.YtnpjififnhjbbaaDoor.E
open Go
theorem q_L12 {m1 m3 m5 m9 m12 m17:Bool}{C K A:List V}{res:List By}(hres:ah7 res=true){does:Bool}{ans:List Int}(hans:ans.length<=150){pre:List By}{i len:Nat}(hi:i<5){p r:List TX}(hp:p.length=i)
  (hend:∀(used:Nat) (lgi:List By) (op:Bool) (n:Nat) (T:TX) (s:List O),used<=ans.length->(pre++lgi).length<=4*used->T.que=[]->Cur s op (pre++lgi) n p T r->∃s',bC1.L10 RZ m1 C m3 K m5 (af5 ans) (vO 1 0) used (m9||!(aa1 lgi).isEmpty) (aa1 pre++aa1 lgi) m17 A len (w6 ((i:Int)+z1)) s=some (.ret [vB true] s')):
  ∀(d used:Nat),used+d=ans.length->∀(good:List Int) (m14:Bool) (s:List O) (op:Bool) (lgi:List By) (n:Nat) (T:TX) (m21:Bool) (e22:List V) (m23 b25 b26 b27 m28:Bool) (dl:List By) (b30 b31:Bool),Cur s op (pre++lgi) n p T r->(∀x,bC8 ((i+1:Nat):Int) does res [] (good++x)=mgrQ T lgi x)->good.length<=used->(af5 good≠[]->m14=true)->n<=20+used->(pre++lgi).length<=4*used->Want T ((i+1:Nat):Int) e22 b30 ->
   ∃s',bC1.L12 RZ m1 C m3 K m5 (af5 ans) (vO 1 0) used m9 (aa1 pre) i m12 (aa1 res) m14 (af5 good) does m17 A len i m21 e22 m23 (aa1 lgi) b25 b26 b27 m28 (aa1 dl) b30 b31 s=some (.ret [vB true] s'):=by
 intro d
 induction d with
 | zero=>
  intro used hu good m14 s op lgi n T m21 e22 m23 b25 b26 b27 m28 dl b30 b31 hC heq hg hm hn hl hw
  rcases hw with ⟨hq,rfl⟩ | ⟨k,l,pr,hq,rfl,he,hpl⟩
  ·obtain ⟨s',q⟩:=hend used lgi op n T s (by omega) hl hq hC
   refine ⟨s',?_⟩
   apply bC1.bD8
   unfold bC1.L12b
   unfold apK
   rw [Bool.not_true,cond_false,ck_t (by rw [ab9,ab9];rw [List.length_append] at hl;simp only [Bool.and_eq_true,Nat.ble_eq];omega),ck_t (show nlB 0 [(vO 1 0,Tag.no)]=true from rfl)]
   exact q
  ·obtain ⟨s1,v1,q1,q2,q3⟩:=hC.log (by omega)
   obtain ⟨n1,_,e1⟩:=q2.aL
   refine ⟨s1,?_⟩
   apply bC1.bD8
   unfold bC1.L12b
   unfold apK
   rw [Bool.not_false,cond_true,bC5,show (((used:Nat):Int)==((ans.length:Nat):Int))=true from by rw [beq_iff_eq];omega,cond_true,ck_t (by rfl),cS_v q1,e1,ck_t (by rw [ab9,ab9];rw [List.length_append] at hl;simp only [Bool.and_eq_true,Nat.ble_eq];omega),bD7,ck_t (by simp [ac0,aj2,ag7]),bh5 (by omega),cP_B,aB_v,decide_eq_true rfl,cond_true]
   exact awk (bC1.J13_of true s1 rfl)
 | succ d ih=>
  intro used hu good m14 s op lgi n T m21 e22 m23 b25 b26 b27 m28 dl b30 b31 hC heq hg hm hn hl hw
  rcases hw with ⟨hq,rfl⟩ | ⟨k,l,pr,hq,rfl,he,hpl⟩
  ·obtain ⟨s',q⟩:=hend used lgi op n T s (by omega) hl hq hC
   refine ⟨s',?_⟩
   apply bC1.bD8
   unfold bC1.L12b
   unfold apK
   rw [Bool.not_true,cond_false,ck_t (by rw [ab9,ab9];rw [List.length_append] at hl;simp only [Bool.and_eq_true,Nat.ble_eq];omega),ck_t (show nlB 0 [(vO 1 0,Tag.no)]=true from rfl)]
   exact q
  ·have hkk:1<=k.1/\k.1<=7:=hC.inv.kinds k (by rw [hq];exact List.mem_cons_self ..)
   obtain ⟨x,hx⟩:=getL (l:=ans) (i:=used) (by omega)
   obtain ⟨s1,a1,a2⟩:=hC.next hq
   rw [hp] at a1
   have ha:=ans_J x k.1 hkk
   obtain ⟨a,hadef⟩:∃a,a=(bif decide (rawA x>most k.1) then z1 else rawA x):=⟨_,rfl⟩
   rw [←hadef] at ha
   obtain ⟨s2,b1,b2⟩:=a2.tell hq ha (by omega) (by omega)
   obtain ⟨e,he9,c1⟩:=b2.again a
   have htl:=aQ3 a T
   have hlen:(pre++(lgi++ax7 a T)).length<=4*(used+1):=by simp only [List.length_append] at hl ⊢;omega
   have heq':∀x,bC8 ((i+1:Nat):Int) does res [] ((good++[a])++x)=mgrQ (as5 a T) (lgi++ax7 a T) x:=fun x=>by
    rw [List.append_assoc,List.singleton_append,heq,mgrQ_step (by rw [hq];simp)]
   have b2':Cur s2 false (pre++(lgi++ax7 a T)) (n+1) p (as5 a T) r:=by rw [←List.append_assoc];exact b2
   have J16:∃s',bC1.J16 RZ m1 C m3 K m5 (af5 ans) (vO 1 0) ((used+1:Nat):Int) m9 (aa1 pre) i m12 (aa1 res) m14 (af5 good) does a m17 A len i false m21 e22 m23 (aa1 lgi) b25 b26 b27 m28 (aa1 dl) false b31 s2=some (.ret [vB true] s'):=by
    obtain ⟨s',q⟩:=q_playK (num:=((i+1:Nat):Int)) (does:=does) (m12:=m12) hres (by omega) (good:=good++[a]) (by rw [List.length_append,List.length_singleton];omega) (ma:=m14||!([vI a]:List V).isEmpty) (fun _=>by cases m14<;>rfl) (T:=as5 a T) (lgi:=lgi++ax7 a T) (by have:=heq' [];rwa [List.append_nil] at this) (KP:=fun p=>panK p s2)
     (K:=fun m39 e40 m43 e44 b47 b50 b53 m56 e57 b60 b63=>bC1.L12 RZ m1 C m3 K m5 (af5 ans) (vO 1 0) ((used+1:Nat):Int) m9 (aa1 pre) i m12 (aa1 res) (m14||!([vI a]:List V).isEmpty) (af5 (good++[a])) does m17 A len i m39 e40 m43 e44 b47 b50 b53 m56 e57 b60 b63 s2)
     (fun m25 e26 m29 b33 b36 b39 m42 dl b46 b49 hw=>ih (used+1) (by omega) (good++[a]) _ s2 false (lgi++ax7 a T) (n+1) (as5 a T) m25 e26 m29 b33 b36 b39 m42 dl b46 b49 b2' heq' (by rw [List.length_append,List.length_singleton];omega) (fun _=>by cases m14<;>rfl) (by omega) hlen hw)
    refine ⟨s',?_⟩
    apply bC1.J16_of
    unfold bC1.J16b
    unfold apK
    rw [cond_false,w6_1 (by omega),ck_t (by rw [bC5];simp only [List.length_cons,List.length_nil,Bool.and_eq_true,Nat.ble_eq];omega),show af5 good++[vI a]=af5 (good++[a]) from by unfold af5;rw [List.map_append];rfl,ck_t (by simp [ac0,aj2,ag7,bC7])]
    exact q
   obtain ⟨s',q⟩:=J16
   refine ⟨s',?_⟩
   have J15:bC1.J15 RZ m1 C m3 K m5 (af5 ans) (vO 1 0) ((used+1:Nat):Int) m9 (aa1 pre) i m12 (aa1 res) m14 (af5 good) does a m17 A len i m21 e22 m23 (aa1 lgi) b25 b26 b27 m28 (aa1 dl) false b31 s1=some (.ret [vB true] s'):=by
    apply bC1.J15_of
    unfold bC1.J15b
    rw [ck_t (show ([vO 1 0,vI a].all ad2)=true from rfl),cS_v b1,aI_v,show ((0:Int) !=z0)=false from rfl,cond_false,ck_t (show ([vO 1 0,vI a].all ad2)=true from rfl),cS_v c1,aI_v]
    rcases he9 with rfl | rfl
    ·exact q
    ·exact q
   have J14:bC1.J14 RZ m1 C m3 K m5 (af5 ans) (vO 1 0) used m9 (aa1 pre) i m12 (aa1 res) m14 (af5 good) does m17 A len i false m21 e22 m23 (aa1 lgi) b25 b26 b27 m28 (aa1 dl) false b31 ((i+1:Nat):Int) k.1 k.2 s1=some (.ret [vB true] s'):=by
    apply bC1.J14_of
    unfold bC1.J14b
    rw [cond_false,intsV_at hx]
    simp -implicitDefEqProofs only [V.cells,aC_v,aI_v,aN_v]
    rw [rAnswers_is hkk,cP_I,aI_v,ck_t (show nlB 1 [(vO 1 0,Tag.no)]=true from rfl),w6_1 (by omega)]
    show (bif decide (rawA x>most k.1) then _ else _)=_
    cases hb:decide (rawA x>most k.1) with
    | true=>rw [hb,cond_true] at hadef;rw [cond_true];rw [hadef] at J15;exact J15
    | false=>rw [hb,cond_false] at hadef;rw [cond_false];rw [hadef] at J15;exact J15
   apply bC1.bD8
   unfold bC1.L12b
   rw [Bool.not_false,cond_true,bC5,show (((used:Nat):Int)==((ans.length:Nat):Int))=false from beq_eq_false_iff_ne.2 (by omega),cond_false,ck_t (by rfl),cT_v a1]
   simp -implicitDefEqProofs only [aT_v,aC_v,aA_v,aI_v,aS_v,aN_v,show ((0:Int) !=z0)=false from rfl,cond_false]
   rw [he,last_at hpl]
   simp -implicitDefEqProofs only [V.cells,aC_v,aI_v,aS_v,aN_v,beq_self_eq_true,byBeq,decide_true,Bool.and_true,Bool.not_true]
   rw [show ((i:Int)+1==((i+1:Nat):Int))=true from by rw [beq_iff_eq];omega,Bool.not_true]
   rw [he] at J14
   exact J14
end Go.Proofs.YtnpjififnhjbbaaDoor.E
set_option maxRecDepth 100000
namespace Go.Proofs.YtnpjififnhjbbaaDoor.E
open Go
def bls (l:List Bool):List V:=l.map vB
def lls (l:List (Bool×List By)):List V:=l.map fun p=>vL p.1 1 (aa1 p.2)
theorem bD0 {l:List Bool}{i:Nat}{x:Bool}(h:l[i]? =some x)(K:V->R):idxK (bls l) (i:Int) K=K (vB x):=aK6 (by unfold bls;rw [List.getElem?_map,h];rfl) K
theorem lls_at {l:List (Bool×List By)}{i:Nat}{x:Bool×List By}(h:l[i]? =some x)(K:V->R):idxK (lls l) (i:Int) K=K (vL x.1 1 (aa1 x.2)):=aK6 (by unfold lls;rw [List.getElem?_map,h];rfl) K
theorem aL1 (m:Bool)(l:List By)(K:Bool->List V->R):aL 1 (vL m 1 (aa1 l)) K=K m (aa1 l):=by
 show aw7 1 _ K=_;unfold aw7;simp only [if_true]
theorem q_L10 {m1 m3 m5 m17:Bool}{ans:List Int}(hans:ans.length<=150){lists:List (Bool×List By)}{cm mk:List Bool}(hl5:lists.length<=5)(hcm:lists.length<=cm.length)(hmk:lists.length<=mk.length)(hnm:∀(j:Nat) (x:Bool×List By),lists[j]? =some x->ah7 x.2=true):
  ∀(j i:Nat),i+j=lists.length->∀(p r:List TX) (s:List O) (op:Bool) (lg:List By) (used:Nat) (m9:Bool),Rst s op lg p r->p.length=i->r.length=j->(∀(k:Nat) (X:TX),r[k]? =some X->∀(x:Bool×List By) (c m:Bool),lists[i+k]? =some x->cm[i+k]? =some c->mk[i+k]? =some m->Fsh ((i+k+1:Nat):Int) (c&&!m) x.2 X)->used<=ans.length->lg.length<=4*used ->
   ∃s',bC1.L10 RZ m1 (bls cm) m3 (bls mk) m5 (af5 ans) (vO 1 0) used m9 (aa1 lg) m17 (lls lists) lists.length i s=some (.ret [vB true] s'):=by
 intro j
 induction j with
 | zero=>
  intro i hi p r s op lg used m9 hR hp hr hF hu hlg
  obtain rfl:r=[]:=List.length_eq_zero_iff.1 hr
  have hm:=hR.mg
  obtain ⟨s1,v1,q1,q2,q3⟩:=Log_is hm (by omega)
  obtain ⟨n1,_,e1⟩:=q2.aL
  have hi':i=lists.length:=by omega
  refine ⟨s1,?_⟩
  apply bC1.L10_of
  unfold bC1.L10b
  rw [hi',ag2,cond_false,ck_t (by rfl),cT_v (Next_nil hm)]
  simp -implicitDefEqProofs only [aT_v,aC_v,aA_v,aI_v,aS_v,aN_v]
  rw [ck_t (show nlB 2 [(vO 1 0,Tag.no)]=true from rfl),show ((8:Int)==(8:Int))=true from rfl,cond_true,ck_t (by rfl),cS_v q1,e1,ck_t (by simp [ac0,aj2,ag7]),bh5 (by omega),cP_B,aB_v,decide_eq_true rfl,cond_true]
  exact awk (bC1.J17_of true s1 rfl)
 | succ j ih=>
  intro i hi p r s op lg used m9 hR hp hr hF hu hlg
  match r,hr with
  | T::r,hr=>
  have hr:r.length=j:=by simpa using hr
  obtain ⟨x,hx⟩:=getL (l:=lists) (i:=i) (by omega)
  obtain ⟨c,hc⟩:=getL (l:=cm) (i:=i) (by omega)
  obtain ⟨m,hm⟩:=getL (l:=mk) (i:=i) (by omega)
  have hT:=hF 0 T rfl x c m hx hc hm
  have hC:=hR.cur hT (by rw [hp];show ((i+1:Nat):Int)=_;omega)
  have hC':Cur s op (lg++[]) 20 p T r:=by rw [List.append_nil];exact hC
  have hn:=hnm i x hx
  have J11:∃s',bC1.J11 RZ m1 (bls cm) m3 (bls mk) m5 (af5 ans) (vO 1 0) used m9 (aa1 lg) i x.1 (aa1 x.2) [] (c&&!m) m17 (lls lists) lists.length i s=some (.ret [vB true] s'):=by
   obtain ⟨s',q⟩:=q_playK (num:=((i+1:Nat):Int)) (does:=c&&!m) (m12:=x.1) hn (by omega) (good:=[]) (by simp) (ma:=false) (fun h=>absurd rfl h) (T:=T) (lgi:=[]) (hT.eq []) (KP:=fun p=>panK p s)
    (K:=fun m25 e26 m29 e30 b33 b36 b39 m42 e43 b46 b49=>bC1.L12 RZ m1 (bls cm) m3 (bls mk) m5 (af5 ans) (vO 1 0) used m9 (aa1 lg) i x.1 (aa1 x.2) false [] (c&&!m) m17 (lls lists) lists.length i m25 e26 m29 e30 b33 b36 b39 m42 e43 b46 b49 s)
    (fun m25 e26 m29 b33 b36 b39 m42 dl b46 b49 hw=>q_L12 (len:=lists.length) (A:=lls lists) (C:=bls cm) (K:=bls mk) (pre:=lg) (r:=r) (does:=c&&!m) hn hans (i:=i) (by omega) hp (fun used' lgi op' n' T' s' hu' hl' hq' hC''=>by
     obtain ⟨s'',q⟩:=ih (i+1) (by omega) (p++[T']) r s' op' (lg++lgi) used' (m9||!(aa1 lgi).isEmpty) (hC''.over hq') (by rw [List.length_append,List.length_singleton,hp]) hr (fun k X hX x c m h1 h2 h3=>by
      have:=hF (k+1) X hX x c m (by rw [show i+(k+1)=i+1+k by omega];exact h1) (by rw [show i+(k+1)=i+1+k by omega];exact h2) (by rw [show i+(k+1)=i+1+k by omega];exact h3)
      rw [show i+(k+1)+1=i+1+k+1 by omega] at this
      exact this) hu' hl'
     refine ⟨s'',?_⟩
     rw [w6_1 (by omega),bD7]
     exact q) (ans.length-used) used (by omega) [] false s op [] 20 T m25 e26 m29 b33 b36 b39 m42 dl b46 b49 hC' (fun x=>hT.eq x) (by simp) (fun h=>absurd rfl h) (by omega) (by rw [List.append_nil];exact hlg) hw)
   refine ⟨s',?_⟩
   apply bC1.J11_of
   unfold bC1.J11b
   rw [w6_1 (by omega),ck_t (by simp [ac0,aj2,ag7])]
   exact q
  obtain ⟨s',q⟩:=J11
  refine ⟨s',?_⟩
  apply bC1.L10_of
  unfold bC1.L10b
  rw [ah8 (by omega),cond_true,lls_at hx]
  simp -implicitDefEqProofs only [V.cells,aC_v,aL1,aN_v]
  rw [bD0 hc]
  simp -implicitDefEqProofs only [V.cells,aC_v,aB_v,aN_v]
  cases c with
  | true=>
   rw [cond_true,bD0 hm]
   simp -implicitDefEqProofs only [V.cells,aC_v,aB_v,aN_v]
   rw [Bool.true_and] at q
   exact q
  | false=>rw [cond_false];rw [Bool.false_and] at q;exact q
end Go.Proofs.YtnpjififnhjbbaaDoor.E
set_option maxRecDepth 100000
namespace Go.Proofs.YtnpjififnhjbbaaDoor.E
open Go
def Raw (num:Int)(res:List By)(m:Bool)(T:TX):Prop:=T= {newT T.b T.q num res [] with st:=if m then 2 else 1}
theorem Raw.st {num:Int}{res:List By}{m:Bool}{T:TX}(h:Raw num res m T):T.st=if m then 2 else 1:=by rw [h]
theorem Raw.que {num:Int}{res:List By}{m:Bool}{T:TX}(h:Raw num res m T):T.que=[]:=by rw [h];rfl
theorem Raw.wat {num:Int}{res:List By}{m:Bool}{T:TX}(h:Raw num res m T):T.wat=[]:=by rw [h];rfl
theorem Raw.res {num:Int}{res:List By}{m:Bool}{T:TX}(h:Raw num res m T):T.res=res:=by rw [h];rfl
theorem Raw.num {num:Int}{res:List By}{m:Bool}{T:TX}(h:Raw num res m T):T.num=num:=by rw [h];rfl
theorem Raw.bt {num:Int}{res:List By}{m:Bool}{T:TX}(h:Raw num res m T)(hr:res.length<=20)(hs:∀x∈res,x.size<=40)(hn:0<=num/\num<100):BT 20 T:=by
 rw [h]
 exact ⟨hr,by simp [newT],hn,by simp [newT],by simp [newT],by simp [newT],by simp [newT],by simp [newT],hs,(fun x hx=>by cases hx),(fun k hk=>by cases hk),(fun e he=>by cases he)⟩
theorem Raw.new {num:Int}{res:List By}{m:Bool}{T:TX}(h:Raw num res m T)(hr:res.Nodup):New0 T:=by
 rw [h];exact ⟨⟨rfl,rfl,rfl,rfl,rfl,rfl,hr⟩,rfl,rfl,rfl⟩
theorem setT_wat :∀(f:Nat) (T:TX),(setT f T).wat=T.wat:=by
 intro f
 induction f with
 | zero=>intro T;rfl
 | succ f ih=>
  intro T
  unfold setT
  split
  ·split
   ·rw [ih];exact (aR2 T).2.2
   split
   ·rw [ih];exact (bg4 T).2.2
   ·rfl
  ·rfl
theorem Raw.com {num:Int}{res:List By}{T:TX}(h:Raw num res false T)(hr:ah7 res=true)(hn:0<=num/\num<100):Fsh num true res (comT T):=by
 have hl:=(ar3 hr).1
 have hB:=h.bt (by omega) (bf1 hr) hn
 have hw:∀x∈T.wat,x.size<=40:=by rw [h.wat];intro x hx;cases hx
 have hq:=h.que
 refine ⟨Inv.comT hq,fin4 _,?_,?_,fun x=>?_,?_⟩
 ·refine BT.set (by omega) 4 (n:=20) ⟨hB.res,hB.wat,hB.num,?_,hB.yes,hB.dbt,hB.fgt,hB.rest,hB.nres,hB.nyes,fun k hk=>?_,hB.qt⟩ hw
  ·show (T.que++T.wat.map fun x=>((1:Int),x)).length<=20
   rw [hq,h.wat];simp
  ·have hk:k∈T.que++T.wat.map fun x=>((1:Int),x):=hk
   rw [hq,List.nil_append] at hk
   exact hw _ (ay0 hk)
 ·show (setT 4 _).wat=[]
  rw [setT_wat];exact h.wat
 ·have:=commit_Q (h.new (bb2 hr)) x
  rw [comL_nil (h.new (bb2 hr)) h.wat,h.num,h.res,h.wat] at this
  exact this.symm
 ·show (setT 4 _).num=num
  rw [aP2];exact h.num
theorem Raw.rol {num:Int}{res:List By}{m:Bool}{T:TX}(h:Raw num res m T)(hr:ah7 res=true)(hn:0<=num/\num<100):Fsh num false res (rolT T):=by
 have hl:=(ar3 hr).1
 have hB:=h.bt (by omega) (bf1 hr) hn
 have hw:∀x∈T.wat,x.size<=40:=by rw [h.wat];intro x hx;cases hx
 refine ⟨Inv.rolT T,fin4 _,?_,?_,fun x=>?_,?_⟩
 ·refine BT.set (by omega) 4 (n:=20) (BT.back ⟨hB.res,hB.wat,hB.num,hB.que,hB.yes,hB.dbt,hB.fgt,?_,hB.nres,hB.nyes,hB.nque,hB.qt⟩ (by omega)) hw
  show ((ar5 T.res).getD []).length<=20
  unfold ar5
  rw [h.res]
  cases hres:res with
  | nil=>simp
  | cons x l=>rw [hres] at hl;exact Nat.le_trans hl (by omega)
 ·show (setT 4 _).wat=[]
  rw [setT_wat];exact h.wat
 ·have:=roll_Q (h.new (bb2 hr)) x
  rw [rolL_nil (h.new (bb2 hr)) h.wat,h.num,h.res,h.wat] at this
  exact this.symm
 ·show (setT 4 _).num=num
  rw [aP2];exact h.num
structure Ph2 (s:List O)(p r:List TX):Prop where
 mg:MgR s 1 0 (((p++r).length:Int)+1) false [] (p++r) (lnQ p)
 len:(p++r).length<=5
theorem Ph2.end_ {s:List O}{p:List TX}(h:Ph2 s p []):Rst s false [] [] p:=by
 have h1:=h.mg
 have h2:=h.len
 rw [List.append_nil] at h1 h2
 exact ⟨h1,h2⟩
theorem Ph2.do {s:List O}{p r:List TX}{T:TX}(h:Ph2 s p (T::r)){num:Int}{res:List By}{m:Bool}(hT:Raw num res m T)(hr:ah7 res=true)(hn:num=(p.length:Int)+1)(c:Bool):∃s' T',RZ.R (bif c then ag0 else ae5) [vO 1 0,vI ((p.length:Int)+1)] s=some (.ret [vI 0] s')/\Fsh num (c&&!m) res T'/\Ph2 s' (p++[T']) r/\RZ.R ag0 [vO 1 0,vI ((p.length:Int)+1)] s'=some (.ret [vI 9] s')/\RZ.R ae5 [vO 1 0,vI ((p.length:Int)+1)] s'=some (.ret [vI 9] s'):=by
 have hl:=(ar3 hr).1
 have hlen:=h.len
 have hpl:p.length<5:=by rw [List.length_append,List.length_cons] at hlen;omega
 have hn2:0<=num/\num<100:=by omega
 have hB:=hT.bt (by omega) (bf1 hr) hn2
 have hw:∀x∈T.wat,x.size<=40:=by rw [hT.wat];intro x hx;cases hx
 have hm:=h.mg
 have hlq:=lnQ_len p
 have rest:∀(s':List O) (T':TX) (L:List By) (d:Bool),T'.b=T.b->Fsh num d res T'->L=[]->MgR s' 1 0 (((p++T::r).length:Int)+1) false ([]++L) ((p++T::r).set p.length T') (aq6 T' (lnQ p++[T.b]))->Ph2 s' (p++[T']) r/\RZ.R ag0 [vO 1 0,vI ((p.length:Int)+1)] s'=some (.ret [vI 9] s')/\RZ.R ae5 [vO 1 0,vI ((p.length:Int)+1)] s'=some (.ret [vI 9] s'):=by
  intro s' T' L d hb hF hL hM
  rw [hL,List.append_nil,bD2,lnA hb hF.inv hF.fin hm.ne_p] at hM
  have hst:=hF.inv.st
  refine ⟨⟨?_,?_⟩,Commit_shut hM (bC3 ..) (by omega),Rollback_shut hM (bC3 ..) (by omega)⟩
  ·rw [List.append_assoc,List.singleton_append,lnQ_app,bC9,show lnQ []=[] from rfl,List.append_nil,show (p++T'::r).length=(p++T::r).length by simp]
   exact hM
  ·rw [List.append_assoc,List.singleton_append,show (p++T'::r).length=(p++T::r).length by simp];exact hlen
 have hrol:∃s',RZ.R ae5 [vO 1 0,vI ((p.length:Int)+1)] s=some (.ret [vI 0] s')/\Fsh num false res (rolT T)/\Ph2 s' (p++[rolT T]) r/\RZ.R ag0 [vO 1 0,vI ((p.length:Int)+1)] s'=some (.ret [vI 9] s')/\RZ.R ae5 [vO 1 0,vI ((p.length:Int)+1)] s'=some (.ret [vI 9] s'):=by
  obtain ⟨s',q1,q2⟩:=Rollback_is hm (by omega) (i:=p.length) (T:=T) (bC3 ..) (by rw [hT.st];cases m<;>decide) (n:=20) (by omega) hB hw (by simp) (by omega)
  have hF:=hT.rol hr hn2
  exact ⟨s',q1,hF,rest s' (rolT T) (rolL T) false (ba1 4 (au7 {T with rest:=ar5 T.res})).1 hF (rolL_nil (hT.new (bb2 hr)) hT.wat) q2⟩
 cases c with
 | false=>
  obtain ⟨s',q1,q2,q3⟩:=hrol
  exact ⟨s',rolT T,q1,q2,q3⟩
 | true=>
  cases m with
  | true=>
   obtain ⟨s',q1,q2,q3⟩:=hrol
   exact ⟨s',rolT T,Commit_marked hm (by omega) (i:=p.length) (T:=T) (bC3 ..) (by rw [hT.st];rfl) q1,q2,q3⟩
  | false=>
   obtain ⟨s',q1,q2⟩:=bE0 hm (by omega) (i:=p.length) (T:=T) (bC3 ..) (by rw [hT.st];rfl) hT.que (n:=20) (by omega) hB hw (by simp) (by omega)
   have hF:=hT.com hr hn2
   exact ⟨s',comT T,q1,hF,rest s' (comT T) (comL T) true (ba1 4 {T with st:=3,que:=T.que++T.wat.map fun s=>((1:Int),s)}).1 hF (comL_nil (hT.new (bb2 hr)) hT.wat) q2⟩
theorem q_L7 {m1 m3 m5 m7:Bool}{ans:List Int}(hans:ans.length<=150){lists:List (Bool×List By)}{cm mk:List Bool}(hl5:lists.length<=5)(hcm:lists.length<=cm.length)(hmk:lists.length<=mk.length)(hnm:∀(j:Nat) (x:Bool×List By),lists[j]? =some x->ah7 x.2=true):
  ∀(j i:Nat),i+j=lists.length->∀(p r:List TX) (s:List O),Ph2 s p r->p.length=i->r.length=j->(∀(k:Nat) (X:TX),p[k]? =some X->∀(x:Bool×List By) (c m:Bool),lists[k]? =some x->cm[k]? =some c->mk[k]? =some m->Fsh ((k+1:Nat):Int) (c&&!m) x.2 X)->(∀(k:Nat) (X:TX),r[k]? =some X->∀(x:Bool×List By) (m:Bool),lists[i+k]? =some x->mk[i+k]? =some m->Raw ((i+k+1:Nat):Int) x.2 m X) ->
   ∃s',bC1.L7 RZ m1 (lls lists) m3 (bls cm) m5 (bls mk) m7 (af5 ans) (vO 1 0) lists.length i s=some (.ret [vB true] s'):=by
 intro j
 induction j with
 | zero=>
  intro i hi p r s hP hp hr hF hR
  obtain rfl:r=[]:=List.length_eq_zero_iff.1 hr
  have hi':i=lists.length:=by omega
  obtain ⟨s',q⟩:=q_L10 (m1:=m3) (m3:=m5) (m5:=m7) (m17:=m1) hans hl5 hcm hmk hnm lists.length 0 (by omega) [] p s false [] 0 false hP.end_ rfl (by omega) (fun k X hX x c m h1 h2 h3=>by
   rw [Nat.zero_add] at h1 h2 h3 ⊢
   exact hF k X hX x c m h1 h2 h3) (by omega) (by simp)
  refine ⟨s',?_⟩
  apply bC1.L7_of
  unfold bC1.L7b
  rw [hi',ag2,cond_false,show (lls lists).length=lists.length from List.length_map _]
  exact q
 | succ j ih=>
  intro i hi p r s hP hp hr hF hR
  match r,hr with
  | T::r,hr=>
  have hr:r.length=j:=by simpa using hr
  obtain ⟨x,hx⟩:=getL (l:=lists) (i:=i) (by omega)
  obtain ⟨c,hc⟩:=getL (l:=cm) (i:=i) (by omega)
  obtain ⟨m,hm⟩:=getL (l:=mk) (i:=i) (by omega)
  have hT:=hR 0 T rfl x m hx hm
  obtain ⟨s1,T',q1,q2,q3,q4,q5⟩:=hP.do hT (hnm i x hx) (by rw [hp];show ((i+1:Nat):Int)=_;omega) c
  have e1:((p.length:Int)+1)=((i+1:Nat):Int):=by rw [hp];omega
  rw [e1] at q1 q4 q5
  obtain ⟨s',q⟩:=ih (i+1) (by omega) (p++[T']) r s1 q3 (by rw [List.length_append,List.length_singleton,hp]) hr (fun k X hX x' c' m' h1 h2 h3=>by
   by_cases hk:k<p.length
   ·rw [List.getElem?_append_left hk] at hX
    exact hF k X hX x' c' m' h1 h2 h3
   ·have hk2:=ad9 hX
    rw [List.length_append,List.length_singleton] at hk2
    have hki:k=i:=by omega
    subst hki
    rw [←hp,List.getElem?_append_right (by omega),Nat.sub_self] at hX
    simp only [List.getElem?_cons_zero,Option.some.injEq] at hX
    subst hX
    rw [hx] at h1;rw [hc] at h2;rw [hm] at h3
    cases h1;cases h2;cases h3
    exact q2) (fun k X hX x' m' h1 h2=>by
   have:=hR (k+1) X hX x' m' (by rw [show i+(k+1)=i+1+k by omega];exact h1) (by rw [show i+(k+1)=i+1+k by omega];exact h2)
   rw [show i+(k+1)+1=i+1+k+1 by omega] at this
   exact this)
  refine ⟨s',?_⟩
  have J8:bC1.J8 RZ m1 (lls lists) m3 (bls cm) m5 (bls mk) m7 (af5 ans) (vO 1 0) i 0 lists.length i s1=some (.ret [vB true] s'):=by
   apply bC1.J8_of
   unfold bC1.J8b
   rw [show ((0:Int) !=z0)=false from rfl,cond_false,w6_1 (by omega),ck_t (by rfl),cS_v q4,aI_v,show ((9:Int) !=(9:Int))=false from rfl,cond_false,ck_t (by rfl),cS_v q5,aI_v,show ((9:Int) !=(9:Int))=false from rfl]
   apply bC1.J9_of
   unfold bC1.J9b
   rw [cond_false,w6_1 (by omega)]
   exact q
  apply bC1.L7_of
  unfold bC1.L7b
  rw [ah8 (by omega),cond_true,bD0 hc]
  simp -implicitDefEqProofs only [V.cells,aC_v,aB_v,aN_v]
  rw [w6_1 (by omega)]
  cases c with
  | true=>
   rw [cond_true] at q1
   rw [cond_true,ck_t (by rfl),cS_v q1,aI_v]
   exact J8
  | false=>
   rw [cond_false] at q1
   rw [cond_false,ck_t (by rfl),cS_v q1,aI_v]
   exact J8
end Go.Proofs.YtnpjififnhjbbaaDoor.E
set_option maxRecDepth 100000
namespace Go.Proofs.YtnpjififnhjbbaaDoor.E
open Go
theorem Raw.more {num:Int}{res res':List By}{m:Bool}{T:TX}(h:Raw num res m T):Raw num res' m {T with res:=res'}:=by
 unfold Raw at h ⊢
 show _= {newT T.b T.q num res' [] with st:=if m then 2 else 1}
 generalize hb:T.b=b at h ⊢
 generalize hq:T.q=q at h ⊢
 rw [h];rfl
theorem Raw.mark {num:Int}{res:List By}{m:Bool}{T:TX}(h:Raw num res m T):Raw num res true {T with st:=2}:=by
 unfold Raw at h ⊢
 show _= {newT T.b T.q num res [] with st:=if true then 2 else 1}
 generalize hb:T.b=b at h ⊢
 generalize hq:T.q=q at h ⊢
 rw [h];rfl
theorem nmZ :aE3 (⟨#[122]⟩:By)=true:=by kernel_rfl
structure Ph1 (s:List O)(tx:List TX):Prop where
 mg:MgR s 1 0 ((tx.length:Int)+1) false [] tx []
 len:tx.length<=5
section
variable {m1 m3 m5 m7:Bool} {ans:List Int} {lists:List (Bool×List By)} {cm mk:List Bool}
theorem q_L3 {m1 m3 m5 m7 m10 m11:Bool}{A C N e10:List V}{mk:List Bool}{p:List TX}{i len:Nat}(hp:p.length=i)(hi:i<5)(hmk:i<mk.length){l:List By}(hl:ah7 l=true)
  (hend:∀(s:List O) (T:TX) (m:Bool),mk[i]? =some m->Raw ((i+1:Nat):Int) l m T->Ph1 s (p++[T])->∃s',bC1.J6 RZ m1 A m3 C m5 (bls mk) m7 N (vO 1 0) m10 e10 len i s=some (.ret [vB true] s')):
  ∀(j k:Nat),k+j=l.length->∀(s:List O) (T:TX),Raw ((i+1:Nat):Int) (l.take k) false T->Ph1 s (p++[T])->∃s',bC1.L3 RZ m1 A m3 C m5 (bls mk) m7 N (vO 1 0) i ((i+1:Nat):Int) m10 e10 len i m11 (aa1 l) l.length k s=some (.ret [vB true] s'):=by
 intro j
 have e1:((p.length:Int)+1)=((i+1:Nat):Int):=by rw [hp];omega
 have upd:∀{s:List O} {T T':TX},(p++[T]).length<=5->MgR s 1 0 (((p++[T]).length:Int)+1) false [] ((p++[T]).set p.length T') []->Ph1 s (p++[T']):=by
  intro s T T' h0 h
  rw [bD2] at h
  rw [show (p++[T]).length=(p++[T']).length by simp] at h h0
  exact ⟨h,h0⟩
 induction j with
 | zero=>
  intro k hk s T hT hP
  have hk':k=l.length:=by omega
  rw [hk',List.take_length] at hT
  obtain ⟨m,hm⟩:=getL (l:=mk) (i:=i) hmk
  cases m with
  | false=>
   obtain ⟨s',q⟩:=hend s T false hm hT hP
   refine ⟨s',?_⟩
   apply bC1.aP1
   unfold bC1.L3b
   rw [hk',ag2,cond_false,bD0 hm]
   simp -implicitDefEqProofs only [V.cells,aC_v,aB_v,aN_v,cond_false]
   exact q
  | true=>
   obtain ⟨s1,a1,a2⟩:=Mark_is hP.mg (i:=p.length) (T:=T) (bC3 ..) (by rw [hT.st];exact .inl rfl)
   have hP1:=upd hP.len a2
   have hT1:=hT.mark
   obtain ⟨s2,b1,b2⟩:=Mark_is hP1.mg (i:=p.length) (T:={T with st:=2}) (bC3 ..) (.inr rfl)
   have hP2:=upd hP1.len b2
   have hT2:=hT1.mark
   have c1:=Enlist_shut hP2.mg (i:=p.length) (T:={T with st:=2}) (bC3 ..) nmZ (by show (2:Int)≠1;decide)
   have d1:=State_is hP2.mg (i:=p.length) (T:={T with st:=2}) (bC3 ..)
   rw [e1] at a1 b1 c1 d1
   obtain ⟨s',q⟩:=hend s2 _ true hm hT2 hP2
   refine ⟨s',?_⟩
   have J5:bC1.J5 RZ m1 A m3 C m5 (bls mk) m7 N (vO 1 0) m10 e10 len i false s2=some (.ret [vB true] s'):=by
    apply bC1.aY9
    unfold bC1.J5b
    rw [cond_false];exact q
   have J4:bC1.J4 RZ m1 A m3 C m5 (bls mk) m7 N (vO 1 0) ((i+1:Nat):Int) m10 e10 len i false s2=some (.ret [vB true] s'):=by
    apply bC1.aH9
    unfold bC1.J4b
    rw [cond_false,ck_t (by rfl),cT_v d1]
    simp -implicitDefEqProofs only [aT_v,aC_v,aI_v,aN_v,show ((0:Int) !=z0)=false from rfl,cond_false,show ((2:Int) !=(2:Int))=false from rfl]
    exact J5
   apply bC1.aP1
   unfold bC1.L3b
   rw [hk',ag2,cond_false,bD0 hm]
   simp -implicitDefEqProofs only [V.cells,aC_v,aB_v,aN_v,cond_true]
   rw [ck_t (by rfl),cS_v a1,aI_v,show ((0:Int) !=z0)=false from rfl,cond_false,ck_t (by rfl),cS_v b1,aI_v,show ((0:Int) !=z0)=false from rfl,cond_false,ck_t (by rfl),cS_v c1,aI_v,show ((9:Int) !=(9:Int))=false from rfl]
   exact J4
 | succ j ih=>
  intro k hk s T hT hP
  obtain ⟨x,hx⟩:=getL (l:=l) (i:=k) (by omega)
  have hn:=nm_at hl hx
  have hl6:=(ar3 hl).1
  obtain ⟨s1,a1,a2⟩:=bD9 hP.mg (i:=p.length) (T:=T) (bC3 ..) hn.1 (by rw [hT.st];rfl) (by rw [hT.res];exact hn.2) (by rw [hT.res,List.length_take];omega)
  rw [e1] at a1
  have hT1:Raw ((i+1:Nat):Int) (l.take (k+1)) false {T with res:=T.res++[x]}:=by
   rw [hT.res,aB6 hx];exact hT.more
  obtain ⟨s',q⟩:=ih (k+1) (by omega) s1 _ hT1 (upd hP.len a2)
  refine ⟨s',?_⟩
  apply bC1.aP1
  unfold bC1.L3b
  rw [ah8 (by omega),cond_true,aj3 hx]
  simp -implicitDefEqProofs only [V.cells,aC_v,aS_v,aN_v]
  rw [ck_t (by rfl),cS_v a1,aI_v,show ((0:Int) !=z0)=false from rfl,cond_false,w6_1 (by omega)]
  exact q
end
theorem q_L1 {m1 m3 m5 m7:Bool}{ans:List Int}(hans:ans.length<=150){lists:List (Bool×List By)}{cm mk:List Bool}(hl5:lists.length<=5)(hcm:lists.length<=cm.length)(hmk:lists.length<=mk.length)(hok:∀(j:Nat) (x:Bool×List By),lists[j]? =some x->sOk x.2):
  ∀(j i:Nat),i+j=lists.length->∀(tx:List TX) (s:List O),Ph1 s tx->tx.length=i->(∀(k:Nat) (X:TX),tx[k]? =some X->∀(x:Bool×List By) (m:Bool),lists[k]? =some x->mk[k]? =some m->Raw ((k+1:Nat):Int) x.2 m X)->(∀(k:Nat) (x:Bool×List By),k<i->lists[k]? =some x->ah7 x.2=true) ->
   ∃s',bC1.L1 RZ m1 (lls lists) m3 (bls cm) m5 (bls mk) m7 (af5 ans) (vO 1 0) m1 (lls lists) lists.length i s=some (.ret [vB true] s'):=by
 intro j
 induction j with
 | zero=>
  intro i hi tx s hP hp hR hN
  have hi':i=lists.length:=by omega
  obtain ⟨s',q⟩:=q_L7 (m1:=m1) (m3:=m3) (m5:=m5) (m7:=m7) hans hl5 hcm hmk (fun k x hx=>hN k x (by rw [hi'];exact ad9 hx) hx) lists.length 0 (by omega) [] tx s ⟨hP.mg,hP.len⟩ rfl (by omega) (fun k X hX=>by simp at hX) (fun k X hX x m h1 h2=>by
   rw [Nat.zero_add] at h1 h2 ⊢
   exact hR k X hX x m h1 h2)
  refine ⟨s',?_⟩
  apply bC1.bd6
  unfold bC1.L1b
  rw [hi',ag2,cond_false,show (lls lists).length=lists.length from List.length_map _]
  exact q
 | succ j ih=>
  intro i hi tx s hP hp hR hN
  obtain ⟨x,hx⟩:=getL (l:=lists) (i:=i) (by omega)
  cases hn:ah7 x.2 with
  | false=>
   refine ⟨s,?_⟩
   apply bC1.bd6
   unfold bC1.L1b
   rw [ah8 (by omega),cond_true,lls_at hx]
   simp -implicitDefEqProofs only [V.cells,aC_v,aL1,aN_v]
   rw [ck_t (by simp [ac0,aj2,ag7]),bx2 (hok i x hx),cP_B,aB_v,hn,Bool.not_false,cond_true]
   exact awk rfl
  | true=>
   obtain ⟨s1,b,q',a1,a2⟩:=Begin_is hP.mg (by omega)
   have e1:((tx.length:Int)+1)=((i+1:Nat):Int):=by rw [hp];omega
   have hP1:Ph1 s1 (tx++[newT b q' ((tx.length:Int)+1) [] []]):=⟨by
    rw [List.length_append,List.length_singleton,show (((tx.length+1:Nat):Int))=(tx.length:Int)+1 by omega];exact a2,by rw [List.length_append,List.length_singleton];omega⟩
   have hT1:Raw ((i+1:Nat):Int) (x.2.take 0) false (newT b q' ((tx.length:Int)+1) [] []):=by rw [e1];rfl
   obtain ⟨s',q⟩:=q_L3 (m1:=m1) (m3:=m3) (m5:=m5) (m7:=m7) (m10:=m1) (m11:=x.1) (A:=lls lists) (C:=bls cm) (N:=af5 ans) (e10:=lls lists) (mk:=mk) (len:=lists.length) hp (by omega) (by omega) hn (fun s' T m hm hT hP'=>by
    obtain ⟨s'',q⟩:=ih (i+1) (by omega) (tx++[T]) s' hP' (by rw [List.length_append,List.length_singleton,hp]) (fun k X hX x' m' h1 h2=>by
     by_cases hk:k<tx.length
     ·rw [List.getElem?_append_left hk] at hX
      exact hR k X hX x' m' h1 h2
     ·have hk2:=ad9 hX
      rw [List.length_append,List.length_singleton] at hk2
      have hki:k=i:=by omega
      subst hki
      rw [←hp,List.getElem?_append_right (by omega),Nat.sub_self] at hX
      simp only [List.getElem?_cons_zero,Option.some.injEq] at hX
      subst hX
      rw [hx] at h1;rw [hm] at h2
      cases h1;cases h2
      exact hT) (fun k x' hk hx'=>by
     by_cases hki:k=i
     ·subst hki;rw [hx] at hx';cases hx';exact hn
     ·exact hN k x' (by omega) hx')
    refine ⟨s'',?_⟩
    apply bC1.br7
    unfold bC1.J6b
    rw [w6_1 (by omega)]
    exact q) x.2.length 0 (by omega) s1 _ hT1 hP1
   refine ⟨s',?_⟩
   apply bC1.bd6
   unfold bC1.L1b
   rw [ah8 (by omega),cond_true,lls_at hx]
   simp -implicitDefEqProofs only [V.cells,aC_v,aL1,aN_v]
   rw [ck_t (by simp [ac0,aj2,ag7]),bx2 (hok i x hx),cP_B,aB_v,hn,Bool.not_true,cond_false,ck_t (by rfl),cT_v a1]
   simp -implicitDefEqProofs only [aT_v,aC_v,aI_v,aN_v]
   rw [e1,w6_1 (by omega),show (((i+1:Nat):Int) !=((i+1:Nat):Int))=false from by simp,cond_false,show ((0:Int) !=z0)=false from rfl]
   apply bC1.ar1
   unfold bC1.J2b
   rw [cond_false,ab9]
   exact q
theorem queue_is {m1 m3 m5 m7:Bool}{lists:List (Bool×List By)}{cm mk:List Bool}{ans:List Int}(hok:∀x∈lists,sOk x.2):∃s,RZ.R bC4 [vL m1 1 (lls lists),vL m3 1 (bls cm),vL m5 1 (bls mk),vL m7 1 (af5 ans)] []=some (.ret [vB true] s):=by
 have J0t:bC1.J0 RZ m1 (lls lists) m3 (bls cm) m5 (bls mk) m7 (af5 ans) true=some (.ret [vB true] []):=by
  apply bC1.am9
  unfold bC1.J0b
  rw [cond_true]
  exact awk rfl
 have e1:(lls lists).length=lists.length:=List.length_map _
 have e2:(bls cm).length=cm.length:=List.length_map _
 have e3:(bls mk).length=mk.length:=List.length_map _
 by_cases h1:lists.length<1
 ·refine ⟨[],?_⟩
  apply bC1.b_of
  unfold bC1.b
  rw [e1,decide_eq_true (show ((lists.length:Nat):Int)<1 by omega),cond_true]
  exact J0t
 by_cases h2:5<lists.length
 ·refine ⟨[],?_⟩
  apply bC1.b_of
  unfold bC1.b
  rw [e1,decide_eq_false (show ¬((lists.length:Nat):Int)<1 by omega),cond_false,decide_eq_true (show ((lists.length:Nat):Int)>5 by omega),cond_true]
  exact J0t
 by_cases h3:cm.length<lists.length
 ·refine ⟨[],?_⟩
  apply bC1.b_of
  unfold bC1.b
  rw [e1,e2,decide_eq_false (show ¬((lists.length:Nat):Int)<1 by omega),cond_false,decide_eq_false (show ¬((lists.length:Nat):Int)>5 by omega),cond_false,decide_eq_true (show ((cm.length:Nat):Int)<lists.length by omega),cond_true]
  exact J0t
 by_cases h4:mk.length<lists.length
 ·refine ⟨[],?_⟩
  apply bC1.b_of
  unfold bC1.b
  rw [e1,e2,e3,decide_eq_false (show ¬((lists.length:Nat):Int)<1 by omega),cond_false,decide_eq_false (show ¬((lists.length:Nat):Int)>5 by omega),cond_false,decide_eq_false (show ¬((cm.length:Nat):Int)<lists.length by omega),cond_false,decide_eq_true (show ((mk.length:Nat):Int)<lists.length by omega),cond_true]
  exact J0t
 have head:∀o,bC1.J0 RZ m1 (lls lists) m3 (bls cm) m5 (bls mk) m7 (af5 ans) (decide (((ans.length:Nat):Int)>150))=some o->RZ.R bC4 [vL m1 1 (lls lists),vL m3 1 (bls cm),vL m5 1 (bls mk),vL m7 1 (af5 ans)] []=some o:=by
  intro o ho
  apply bC1.b_of
  unfold bC1.b
  rw [e1,e2,e3,bC5,decide_eq_false (show ¬((lists.length:Nat):Int)<1 by omega),cond_false,decide_eq_false (show ¬((lists.length:Nat):Int)>5 by omega),cond_false,decide_eq_false (show ¬((cm.length:Nat):Int)<lists.length by omega),cond_false,decide_eq_false (show ¬((mk.length:Nat):Int)<lists.length by omega),cond_false]
  exact ho
 by_cases h5:150<ans.length
 ·rw [decide_eq_true (show ((ans.length:Nat):Int)>150 by omega)] at head
  exact ⟨[],head _ J0t⟩
 rw [decide_eq_false (show ¬((ans.length:Nat):Int)>150 by omega)] at head
 obtain ⟨s',q⟩:=q_L1 (m1:=m1) (m3:=m3) (m5:=m5) (m7:=m7) (ans:=ans) (by omega) (lists:=lists) (cm:=cm) (mk:=mk) (by omega) (by omega) (by omega) (fun j x hx=>hok x (List.mem_of_getElem? hx)) lists.length 0 (by omega) [] _ ⟨New_R,by simp⟩ rfl (fun k X hX=>by simp at hX) (fun k x hk=>by omega)
 refine ⟨s',head _ ?_⟩
 apply bC1.am9
 unfold bC1.J0b
 rw [cond_false,cS_v New_is]
 simp -implicitDefEqProofs only [at0,cond_false]
 rw [e1]
 exact q
end Go.Proofs.YtnpjififnhjbbaaDoor.E
