/- It is proved what the evaluation of the manager's Tell, New, Begin, Enlist, Watch, Mark, State, Commit, Rollback, Log and Ending comes to, and of the names' tests. No condition beyond the lemmas' own. -/
import Derived.Test.YtnpjififnhjbbaaDoorP2
set_option maxRecDepth 100000
namespace Go.Proofs.YtnpjififnhjbbaaDoor.E
open Go
theorem aE4 {T:TX}(h:T.st≠3/\T.st≠4/\T.st≠5):∀f,setT f T=T
 | 0=>rfl
 | f+1=>by
  unfold setT
  split
  ·rw [if_neg h.1,if_neg (by omega)]
  ·rfl
theorem aA8 {T:TX}(h:T.que≠[]):∀f,setT f T=T
 | 0=>rfl
 | f+1=>by
  unfold setT
  split
  ·rename_i hq;exact absurd hq h
  ·rfl
theorem aQ6 {T:TX}(h:T.que=[])(h3:T.st=3)(f:Nat):setT (f+1) T=setT f (aj1 T):=by
 rw [show setT (f+1) T=match T.que with | []=>if T.st=3 then setT f (aj1 T) else if T.st=4∨T.st=5 then setT f (endT T) else T | _=>T from rfl,h];simp only [h3,if_true]
theorem aB9 {T:TX}(h:T.que=[])(h4:T.st=4∨T.st=5)(f:Nat):setT (f+1) T=setT f (endT T):=by
 rw [show setT (f+1) T=match T.que with | []=>if T.st=3 then setT f (aj1 T) else if T.st=4∨T.st=5 then setT f (endT T) else T | _=>T from rfl,h];simp only [show T.st≠3 by omega,if_false,h4,if_true]
theorem bm0 {T:TX}(h:T.fgt=[]):(endT T).st≠3/\(endT T).st≠4/\(endT T).st≠5:=by
 unfold endT
 rw [h]
 simp only
 by_cases h4:T.st=4
 ·rw [if_pos h4];omega
 ·rw [if_neg h4];omega
theorem fin2 {T:TX}(h:T.st=4∨T.st=5):fin (setT 2 T):=by
 by_cases hq:T.que=[]
 ·rw [aB9 hq h]
  by_cases hf:T.fgt=[]
  ·rw [aE4 (bm0 hf)];exact .inr (bm0 hf)
  ·by_cases hq2:(endT T).que=[]
   ·have hs:(endT T).st=T.st:=by unfold endT;split<;>first | (rename_i e;exact absurd e hf) | rfl
    have hf2:(endT T).fgt=[]:=by unfold endT;split<;>first | (rename_i e;exact absurd e hf) | rfl
    rw [aB9 hq2 (by rw [hs];exact h)]
    exact .inr (bm0 hf2)
   ·rw [aA8 hq2];exact .inl hq2
 ·rw [aA8 hq];exact .inl hq
theorem bk5 {T:TX}:∀{f:Nat},fin (setT f T)->fin (setT (f+1) T):=by
 intro f
 induction f generalizing T with
 | zero=>
  intro h
  have h:fin T:=h
  rcases h with h | h
  ·rw [aA8 h];exact .inl h
  ·rw [aE4 h];exact .inr h
 | succ f ih=>
  intro h
  by_cases hq:T.que=[]
  ·by_cases h3:T.st=3
   ·rw [aQ6 hq h3] at h ⊢;exact ih h
   ·by_cases h45:T.st=4∨T.st=5
    ·rw [aB9 hq h45] at h ⊢;exact ih h
    ·have hs:T.st≠3/\T.st≠4/\T.st≠5:=by omega
     rw [aE4 hs];exact .inr hs
  ·rw [aA8 hq];exact .inl hq
theorem fin4 (T:TX):fin (setT 4 T):=by
 by_cases hq:T.que=[]
 ·by_cases h3:T.st=3
  ·rw [aQ6 hq h3]
   by_cases hq2:(aj1 T).que=[]
   ·have hs:(aj1 T).st=4:=by
     unfold aj1 at hq2 ⊢
     split at hq2
     ·rfl
     ·split at hq2
      ·rfl
      ·cases hq2
      ·rename_i l hl1 hl2
       simp only [hq,List.nil_append,List.map_eq_nil_iff] at hq2
       exact absurd hq2 (by assumption)
    exact bk5 (fin2 (.inl hs))
   ·rw [aA8 hq2];exact .inl hq2
  ·by_cases h45:T.st=4∨T.st=5
   ·exact bk5 (bk5 (fin2 h45))
   ·have hs:T.st≠3/\T.st≠4/\T.st≠5:=by omega
    rw [aE4 hs];exact .inr hs
 ·rw [aA8 hq];exact .inl hq
def most (k:Int):Int:=if k=1 then 2 else if k=2 then 4 else if k=3∨k=4∨k=5 then 5 else if k=6 then 2 else 1
def fOf (k:Int):Nat:=if k=1 then 45 else if k=2 then 46 else if k=3∨k=4 then 47 else if k=5 then 48 else if k=6 then 49 else 50
theorem fOf_ok {k:Int}(h:1<=k/\k<=7):fnQ 0 (fOf k)=true:=by
 have h45:fnQ 0 45=true:=by kernel_rfl
 have h46:fnQ 0 46=true:=by kernel_rfl
 have h47:fnQ 0 47=true:=by kernel_rfl
 have h48:fnQ 0 48=true:=by kernel_rfl
 have h49:fnQ 0 49=true:=by kernel_rfl
 have h50:fnQ 0 50=true:=by kernel_rfl
 unfold fOf
 split;· assumption
 split;· assumption
 split;· assumption
 split;· assumption
 split<;>assumption
def ansC :List V:=[(vI 2),(V.func (.func 45) [] []),(vI 4),(V.func (.func 46) [] []),(vI 5),(V.func (.func 47) [] []),(vI 5),(V.func (.func 47) [] []),(vI 5),(V.func (.func 48) [] []),(vI 2),(V.func (.func 49) [] []),(vI 1),(V.func (.func 50) [] [])]
theorem answers_is (s:List O):RZ.R as0 [] s=some (.ret [vA ansC] s):=bd8.b_of s rfl
theorem idxA_ans {k:Int}(h:1<=k/\k<=7)(K:List V->R):idxA ansC 2 7 (w6 (k-z1)) K=K [vI (most k),.func (.func (fOf k)) [] []]:=by
 have hk:k=1∨k=2∨k=3∨k=4∨k=5∨k=6∨k=7:=by omega
 rcases hk with rfl | rfl | rfl | rfl | rfl | rfl | rfl<;>rfl
theorem told_is {m:Nat}{M:MV}{s:List O}{lg:List By}{gv:V}{c:CV}{r n:Nat}{T:TX}{k:Int×By}{a:Int}(h:PT s m M lg gv c r T)(hB:BT n T)(hn:n<=20000)(hk:1<=k.1/\k.1<=7)(ha:1<=a/\a<=most k.1):∃s',RZ.R (fOf k.1) [vO m 0,vO T.b 0,kV k,vI a] s=some (.ret [] s')/\Step s m M r s' lg (aj5 k a T):=by
 by_cases h1:k.1=1
 ·rw [show fOf k.1=45 from by rw [h1];rfl];exact tBefore_is h hB hn h1
 by_cases h2:k.1=2
 ·rw [show fOf k.1=46 from by rw [h2];rfl]
  rw [show most k.1=4 from by rw [h2];rfl] at ha
  exact tPrepare_is h hB hn h2 ha
 by_cases h34:k.1=3∨k.1=4
 ·rw [show fOf k.1=47 from by rcases h34 with e | e<;>rw [e]<;>rfl];exact tEnd_is h hB hn h34
 by_cases h5:k.1=5
 ·rw [show fOf k.1=48 from by rw [h5];rfl];exact tOne_is h hB hn h5 ha.1
 by_cases h6:k.1=6
 ·rw [show fOf k.1=49 from by rw [h6];rfl];exact tForget_is h hB hn h6
 ·have h7:k.1=7:=by omega
  rw [show fOf k.1=50 from by rw [h7];rfl]
  have e:aj5 k a T=T:=by unfold aj5;rw [if_neg h1,if_neg h2,if_neg h34,if_neg h5,if_neg h6]
  rw [e]
  exact ⟨s,aW4.b_of _ _ _ _ _ _ _ _ rfl,h.step⟩
theorem sil_b (k:Int×By)(T:TX):(silT k T).b=T.b/\(silT k T).q=T.q/\(silT k T).num=T.num/\(silT k T).wat=T.wat:=by unfold silT;simp only;split<;>exact ⟨rfl,rfl,rfl,rfl⟩
theorem aA5 (k:Int×By)(a:Int)(T:TX):(addF k a T).b=T.b/\(addF k a T).q=T.q/\(addF k a T).num=T.num/\(addF k a T).wat=T.wat:=by unfold addF;split<;>exact ⟨rfl,rfl,rfl,rfl⟩
theorem told_b (k:Int×By)(a:Int)(T:TX):(aj5 k a T).b=T.b/\(aj5 k a T).q=T.q/\(aj5 k a T).num=T.num/\(aj5 k a T).wat=T.wat:=by
 unfold aj5
 split
 ·split<;>exact ⟨rfl,rfl,rfl,rfl⟩
 split
 ·split
  ·exact ⟨rfl,rfl,rfl,rfl⟩
  split
  ·exact ⟨rfl,rfl,rfl,rfl⟩
  split<;>exact ⟨rfl,rfl,rfl,rfl⟩
 split
 ·split
  ·exact aA5 k a _
  split
  ·exact aA5 k a _
  split
  ·rw [(aA5 k a _).1,(aA5 k a _).2.1,(aA5 k a _).2.2.1,(aA5 k a _).2.2.2];exact sil_b k T
  ·exact aA5 k a _
 split
 ·split
  ·exact aA5 k a _
  split
  ·exact aA5 k a _
  split<;>exact aA5 k a _
 split
 ·split
  ·exact sil_b k T
  ·exact ⟨rfl,rfl,rfl,rfl⟩
 ·exact ⟨rfl,rfl,rfl,rfl⟩
theorem BT.pop {n:Nat}{T:TX}(h:BT n T):BT n (popT T):=⟨h.res,h.wat,h.num,by show T.que.tail.length<=n;have:=h.que;rw [List.length_tail];omega,h.yes,h.dbt,h.fgt,h.rest,h.nres,h.nyes,fun k hk=>h.nque k (List.mem_of_mem_tail hk),h.qt⟩
theorem bB6 {s:List O}{m mp:Nat}{nx:Int}{lg:List By}{tx:List TX}{b:Nat}{ln:List Nat}(h:MgR s m mp nx true lg tx (b::ln)){i:Nat}{T:TX}(hi:tx[i]? =some T)(hb:T.b=b){k:Int×By}{l:List (Int×By)}(hq:T.que=k::l)(hk:1<=k.1/\k.1<=7)(a:Int):∀o,ag1.J0 RZ m 0 a (vO b 0) (decide (a<1∨a>most k.1)) k.1 k.2 (most k.1) (.func (.func (fOf k.1)) [] []) s=some o->RZ.R af0 [vO m 0,vI a] s=some o:=by
 intro o ho
 have hd:=due_is h
 obtain ⟨M,gv,col,e1,e2,e3,hc,hm⟩:=h
 obtain ⟨c,r,hp,_⟩:=hc.pt hi
 obtain ⟨n9,a9,e9⟩:=hp.tx.cr.h9.aL
 have hbx:s[b]? =some (.box (boxC c T)):=by rw [←hb];exact hp.box
 rw [hq] at e9
 have hfin:∀(n63:Int) (v:V),n63=most k.1->v=.func (.func (fOf k.1)) [] []->(bif (decide (a<1)) then ag1.J0 RZ m 0 a (vO b 0) true k.1 k.2 n63 v s else ag1.J0 RZ m 0 a (vO b 0) (decide (a>n63)) k.1 k.2 n63 v s)=some o:=by
  intro n63 v h1 h2
  subst h1;subst h2
  by_cases ha:a<1
  ·rw [decide_eq_true ha,cond_true]
   rw [show decide (a<1∨a>most k.1)=true from decide_eq_true (.inl ha)] at ho;exact ho
  ·rw [decide_eq_false ha,cond_false,aH1 (show a>most k.1↔(a<1∨a>most k.1) from ⟨.inr,fun h=>h.resolve_left ha⟩)];exact ho
 have hx:∀K:List V->R,idxA [(vI 2),(V.func (.func 45) [] []),(vI 4),(V.func (.func 46) [] []),(vI 5),(V.func (.func 47) [] []),(vI 5),(V.func (.func 47) [] []),(vI 5),(V.func (.func 48) [] []),(vI 2),(V.func (.func 49) [] []),(vI 1),(V.func (.func 50) [] [])] 2 7 (w6 (k.1-z1)) K=K [vI (most k.1),.func (.func (fOf k.1)) [] []]:=fun K=>idxA_ans hk K
 apply ag1.b_of
 unfold ag1.b
 rw [cS_v hd]
 simp only [at0,cond_false,Nat.reduceAdd,rdM3 hc.mb,aB_v,e3,Bool.not_true,aO_v,rdC9 hbx,e9,idx_head,V.cells,aC_v,aI_v,aS_v,aN_v,cS_v (answers_is s),ansC,aA_v,hx,as4,aw0]
 rw [ck_t (by rfl)]
 exact hfin _ _ rfl rfl
theorem Tell_nil {s:List O}{m mp:Nat}{nx:Int}{op:Bool}{lg:List By}{tx:List TX}(h:MgR s m mp nx op lg tx [])(a:Int):RZ.R af0 [vO m 0,vI a] s=some (.ret [vI 8] s):=by
 apply ag1.b_of
 unfold ag1.b
 rw [cS_v (due_nil h)]
 rfl
theorem Tell_shut {s:List O}{m mp:Nat}{nx:Int}{lg:List By}{tx:List TX}{b:Nat}{ln:List Nat}(h:MgR s m mp nx false lg tx (b::ln))(a:Int):RZ.R af0 [vO m 0,vI a] s=some (.ret [vI 9] s):=by
 have hd:=due_is h
 obtain ⟨M,gv,col,e1,e2,e3,hc,hm⟩:=h
 apply ag1.b_of
 unfold ag1.b
 rw [cS_v hd]
 simp only [at0,cond_false,Nat.reduceAdd,rdM3 hc.mb,aB_v,e3,Bool.not_false,cond_true]
 rfl
theorem Tell_is {s:List O}{m mp:Nat}{nx:Int}{lg:List By}{tx:List TX}{b:Nat}{ln:List Nat}(h:MgR s m mp nx true lg tx (b::ln)){i:Nat}{T:TX}(hi:tx[i]? =some T)(hb:T.b=b){k:Int×By}{l:List (Int×By)}(hq:T.que=k::l)(hk:1<=k.1/\k.1<=7){a:Int}(ha:1<=a/\a<=most k.1){n:Nat}(hn:20<=n/\n<=19000)(hB:BT n T)(hw:∀x∈T.wat,x.size<=40)(hlg:lg.length<=90000)(hll:(b::ln).length<=1000000):
  ∃s',RZ.R af0 [vO m 0,vI a] s=some (.ret [vI 0] s')/\MgR s' m mp nx false (lg++ax7 a T) (tx.set i (as5 a T)) (aq6 (as5 a T) (b::ln)):=by
 obtain ⟨s1,w,h1,_⟩:=h.op false
 have head:=bB6 h hi hb hq hk a
 rw [decide_eq_false (by omega)] at head
 obtain ⟨M,gv,col,e1,e2,e3,hc,hm⟩:=h1
 obtain ⟨c,r,hp,hcb,hcq,hcr⟩:=hc.pt hi
 obtain ⟨n9,a9,e9⟩:=hp.tx.cr.h9.aL
 have hcv:CR {c with c9:=.list n9 2 (as7 l)} (popT T):=by
  refine ⟨hp.tx.cr.h0,hp.tx.cr.h1,hp.tx.cr.h8,?_,hp.tx.cr.h10,hp.tx.cr.h12,hp.tx.cr.n0⟩
  show isL 2 (as7 T.que.tail) _
  rw [hq]
  exact isLn fun _=>a9 (by rw [hq];unfold as7;simp)
 have hpop:=hp.put (T':=popT T) hcv
 obtain ⟨s2,g1,g2⟩:=told_is (a:=a) hpop hB.pop (by omega) hk ha
 have hBk:k.2.size<=40:=hB.nque k (by rw [hq];simp)
 have htb:=told_b k a (popT T)
 have hstep:Step s1 m M r s2 lg (aj5 k a (popT T)):=Step.pre (Fr.set _ _ _ (by rw [htb.1];show T.b∈_;simp;right;left;rfl)) (.inl rfl) g2
 obtain ⟨gv2,col2,hc2⟩:=hc.step hi hp hcr hstep htb.1 htb.2.1 htb.2.2.1
 have hi2:(tx.set i (aj5 k a (popT T)))[i]? =some (aj5 k a (popT T)):=by rw [List.getElem?_set_self (ad9 hi)]
 obtain ⟨s3,q1,q2⟩:=ba0 (n:=n+1) ⟨M,gv2,col2,e1,e2,e3,hc2,fun y hy=>bt6 hi htb.1 (hm y hy)⟩ hi2 (by omega) ((hB.pop).told hn.1 hBk) (by rw [htb.2.2.2];exact hw) hlg (fin4 _) hll
 have et:as5 a T=setT 4 (aj5 k a (popT T)):=by unfold as5;rw [hq]
 have el:ax7 a T=setL 4 (aj5 k a (popT T)):=by unfold ax7;rw [hq]
 rw [List.set_set,←et,←el] at q2
 refine ⟨s3,head _ ?_,q2⟩
 have hbx:s1[b]? =some (.box (boxC c T)):=by rw [←hb];exact hp.box
 have hT9:∀(K1:V->R) (K2:V->List O->R),rdT s1 b 9 K1 K2=K2 c.c9 (s1.set b (.box ((boxC c T).set 9 (c.c9,false)))):=fun K1 K2=>by unfold rdT;rw [hbx];rfl
 have hW9:∀(v:V) (K:List O->R),wrO (s1.set b (.box ((boxC c T).set 9 (c.c9,false)))) b 9 [(v,true)] K=K (s1.set b (.box (boxC {c with c9:=v} T))):=fun v K=>by
  rw [af6 (ad5 hbx) (Nat.le_of_ble_eq_true rfl),ak0];rfl
 rw [hq] at e9
 apply ag1.am9
 unfold ag1.J0b
 simp only [Nat.reduceAdd,cond_false,w,aO_v,hT9,e9]
 rw [ck_t (by rw [aU5];simp only [Bool.and_eq_true,decide_eq_true_iff];show (0:Int)<=1/\(1:Int)<=(((k::l).length:Nat):Int)/\_;simp only [List.length_cons];omega)]
 rw [show ((as7 (k::l)).take ((((as7 (k::l)).length:Nat):Int)).toNat).drop (z1:Int).toNat=as7 l from by
  rw [show ((((as7 (k::l)).length:Nat):Int)).toNat=(as7 (k::l)).length from rfl,List.take_length];rfl,hW9]
 have hcall:∀K KP,aD5 RZ.R (.func (.func (fOf k.1)) [] []) [vO m 0,vO b 0,vA [vI k.1,vS k.2],vI a] (s1.set b (.box (boxC {c with c9:=.list n9 2 (as7 l)} T))) K KP=K (.tup []) s2:=fun K KP=>by
  refine CALLF_0 (fOf_ok hk) (a:=[]) (b:=[]) ?_ rfl
  rw [←hb];exact g1
 rw [hcall,aT_v,aN_v,ck_t (show nlB 0 [(vO b 0,Tag.no)]=true from rfl),ck_t (show nlB 1 [(vO b 0,Tag.no)]=true from rfl),ck_t (show ([vO m 0,vO b 0].all ad2)=true from rfl)]
 have q1:RZ.R ac4 [vO m 0,vO b 0] s2=some (.ret [] s3):=by
  rw [htb.1] at q1
  rw [←hb];exact q1
 rw [as3 q1]
 rfl
end Go.Proofs.YtnpjififnhjbbaaDoor.E
set_option maxRecDepth 100000
namespace Go.Proofs.YtnpjififnhjbbaaDoor.E
open Go
theorem MgC.low {s s':List O}{m:Nat}{M:MV}{gv:V}{col:Nat->Nat}{lg:List By}{tx:List TX}{ln:List Nat}(h:MgC s m M gv col lg tx ln)(hl:s.length<=s'.length)(hs:∀j,j<s.length->s'[j]? =s[j]?):MgC s' m M gv col lg tx ln:=by
 obtain ⟨k,hk⟩:=h.mp
 refine ⟨by rw [hs _ (ad9 h.mb)];exact h.mb,h.lg,h.cm,h.cmp,h.ln.low fun id k n c e=>hs _ (h.cl id k n c e).2,fun id k n c e=>⟨(h.cl id k n c e).1,Nat.lt_of_lt_of_le (h.cl id k n c e).2 hl⟩,⟨k,by rw [hs _ (ad9 hk)];exact hk⟩,fun i T hi=>?_⟩
 obtain ⟨g1,c,r,g2,g3,g4⟩:=h.tx i T hi
 have hq:T.q<s.length:=by obtain ⟨k,hk⟩:=g2.qt;exact ad9 hk
 exact ⟨g1,c,r,g2.low (hs _ (ad9 g2.box)) (hs _ hq) (hs _ g3),Nat.lt_of_lt_of_le g3 hl,g4⟩
theorem MgR.add {s:List O}{m mp:Nat}{nx:Int}{op:Bool}{lg:List By}{tx:List TX}{ln:List Nat}(h:MgR s m mp nx op lg tx ln)(x:List O):MgR (s++x) m mp nx op lg tx ln:=by
 obtain ⟨M,gv,col,e1,e2,e3,hc,hm⟩:=h
 exact ⟨M,gv,col,e1,e2,e3,hc.low (by simp) fun j hj=>List.getElem?_append_left hj,hm⟩
theorem New_is :RZ.R aS1 [] []=some (.ret [vO 1 0] [O.map [] 0,.box (boxM ⟨0,1,.list false 0 [],true,false⟩ (.list false 1 []) true)]):=txn_New.b_of [] rfl
theorem New_R :MgR [O.map [] 0,.box (boxM ⟨0,1,.list false 0 [],true,false⟩ (.list false 1 []) true)] 1 0 1 false [] [] []:=
 ⟨⟨0,1,.list false 0 [],true,false⟩,_,fun _=>0,rfl,rfl,rfl,⟨rfl,aq7,rfl,rfl,.inl ⟨rfl,0,rfl⟩,(fun _ _ _ _ e=>by cases e),⟨0,rfl⟩,(fun i T h=>by simp at h)⟩,(fun y hy=>by cases hy)⟩
theorem bk4 :∀(tx:List TX) (o:Int) (i:Nat) (T:TX),(∀(j:Nat) (T:TX),tx[j]? =some T->T.num=o+(j:Int)+1)->tx[i]? =some T->aB1 (vI (o+(i:Int)+1)) (tx.map fun T=>(vI T.num,vO T.b 0))=some (some (vO T.b 0))
 | [],_,_,_,_,h=>by simp at h
 | T0::tx,o,i,T,hn,h=>by
  have h0:=hn 0 T0 rfl
  show (some ((o+(i:Int)+1)==T0.num)).bind (fun b=>bif b then some (some (vO T0.b 0)) else aB1 (vI (o+(i:Int)+1)) (tx.map fun T=>(vI T.num,vO T.b 0)))=_
  rw [Option.bind_some,h0]
  cases i with
  | zero=>
   have h:some T0=some T:=h
   injection h with h;subst h
   rw [show ((o+((0:Nat):Int)+1)==(o+((0:Nat):Int)+1))=true from beq_self_eq_true _];rfl
  | succ i=>
   rw [beq_eq_false_iff_ne.2 (by omega),cond_false]
   have:=bk4 tx (o+1) i T (fun j T hj=>by have:=hn (j+1) T hj;omega) h
   rw [show o+((i+1:Nat):Int)+1=o+1+(i:Int)+1 from by omega]
   exact this
theorem aS5 {s:List O}{m mp:Nat}{nx:Int}{op:Bool}{lg:List By}{tx:List TX}{ln:List Nat}(h:MgR s m mp nx op lg tx ln){i:Nat}{T:TX}(hi:tx[i]? =some T):RZ.R af8 [vO m 0,vI ((i:Int)+1)] s=some (.ret [vO T.b 0,vI 0] s):=by
 obtain ⟨M,gv,col,e1,e2,e3,hc,hm⟩:=h
 obtain ⟨k,hk⟩:=hc.mp
 apply aA7.b_of
 unfold aA7.b
 simp only [Nat.reduceAdd]
 rw [rdM0 hc.mb]
 show mapK s M.mp _=_
 unfold mapK
 rw [hk]
 unfold ar6
 have:=bk4 tx 0 i T (fun j T hj=>by have:=(hc.tx j T hj).1;omega) hi
 rw [show (0:Int)+(i:Int)+1=(i:Int)+1 from by omega] at this
 simp only
 rw [this]
 rfl
theorem bq4 :∀(tx:List TX) (n:Int),(∀T∈tx,T.num≠n)->∀v,putV (vI n) v (tx.map fun T=>(vI T.num,vO T.b 0))=some ((tx.map fun T=>(vI T.num,vO T.b 0))++[(vI n,v)])
 | [],_,_,_=>rfl
 | T::tx,n,h,v=>by
  show (some (n==T.num)).bind (fun b=>bif b then some ((vI n,v)::tx.map fun T=>(vI T.num,vO T.b 0)) else (putV (vI n) v (tx.map fun T=>(vI T.num,vO T.b 0))).map ((vI T.num,vO T.b 0)::·))=_
  rw [Option.bind_some,beq_eq_false_iff_ne.2 (fun e=>h T (List.mem_cons_self ..) e.symm),cond_false,bq4 tx n (fun T hT=>h T (List.mem_cons_of_mem _ hT)) v]
  rfl
def newC :CV:=⟨.list false 1 [],.list false 1 [],.list false 1 [],.list false 2 [],.list false 1 [],.list false 1 [],.list false 1 [],true⟩
theorem Begin_is {s:List O}{m mp:Nat}{op:Bool}{lg:List By}{tx:List TX}{ln:List Nat}(h:MgR s m mp ((tx.length:Int)+1) op lg tx ln)(hl:tx.length<50):∃s' b q,RZ.R am1 [vO m 0,vI 0] s=some (.ret [vI ((tx.length:Int)+1),vI 0] s')/\MgR s' m mp ((tx.length:Int)+1+1) op lg (tx++[newT b q ((tx.length:Int)+1) [] []]) ln:=by
 obtain ⟨M,gv,col,e1,e2,e3,hc,hm⟩:=h
 obtain ⟨k,hk⟩:=hc.mp
 have hmpl:=ad9 hk
 have hml:=ad9 hc.mb
 have hmpm:M.mp≠m:=by intro e;rw [e,hc.mb] at hk;cases hk
 let M':MV:={M with nx:=(tx.length:Int)+1+1}
 obtain ⟨col2,hc2⟩:=hc.setM (s0:=s) M' rfl (Nat.le_refl _) (ln':=ln) hc.ln (fun id k n c e=>.inr ⟨_,_,_,e⟩) (fun id k n c e=>(hc.cl id k n c e).2) (fun j _ _=>rfl)
 generalize hs1:s.set m (.box (boxM M' gv true))=s1 at hc2
 have hl1:s1.length=s.length:=by rw [←hs1];simp
 let T0:TX:=newT (s1.length+1) s1.length ((tx.length:Int)+1) [] []
 let s2:List O:=(s1++[O.map [] 0])++[.box (boxC newC T0)]
 have hc3:=hc2.low (s':=s2) (by simp [s2]) (fun j hj=>by
  show ((s1++[O.map [] 0])++[O.box (boxC newC T0)])[j]? =_
  rw [List.getElem?_append_left (by simp;omega),List.getElem?_append_left hj])
 obtain ⟨k2,hk2⟩:=hc3.mp
 have hk2':s2[M.mp]? =some (.map (tx.map fun T=>(vI T.num,vO T.b 0)) k2):=hk2
 let es:=(tx.map fun T=>(vI T.num,vO T.b 0))++[(vI ((tx.length:Int)+1),vO (s1++[O.map [] 0]).length 0)]
 let kk:=if es.length=(tx.map fun T=>(vI T.num,vO T.b 0)).length then k2 else k2+1
 have hmp2:M.mp<s1.length:=by omega
 have hlen2:s2.length=s1.length+2:=by simp [s2]
 have get2:∀j,j≠M.mp->(s2.set M.mp (.map es kk))[j]? =s2[j]? :=fun j hj=>List.getElem?_set_ne fun e=>hj e.symm
 have hb0:s2[s1.length+1]? =some (.box (boxC newC T0)):=by
  show ((s1++[O.map [] 0])++[O.box (boxC newC T0)])[s1.length+1]? =_
  rw [List.getElem?_append_right (by simp)];simp
 have hq0:s2[s1.length]? =some (.map [] 0):=by
  show ((s1++[O.map [] 0])++[O.box (boxC newC T0)])[s1.length]? =_
  rw [List.getElem?_append_left (by simp),aT1]
 refine ⟨s2.set M.mp (.map es kk),s1.length+1,s1.length,?_,M',gv,fun j=>if j<s1.length then col2 j else tx.length+2,e1,rfl,e3,⟨?_,hc3.lg,?_,?_,hc3.ln.low fun id k n c e=>?_,fun id k n c e=>?_,⟨kk,?_⟩,fun i T hi=>?_⟩,fun y hy=>?_⟩
 ·apply an8.b_of
  unfold an8.b
  rw [show ((0:Int) !=z0)=false from rfl,cond_false]
  apply an8.am9
  unfold an8.J0b
  simp only [Nat.reduceAdd]
  rw [rdM0 hc.mb]
  show mapK s M.mp _=_
  unfold mapK
  rw [hk]
  simp only
  rw [show ((((tx.map fun T=>(vI T.num,vO T.b 0)).length:Nat):Int)==(60:Int))=false from by rw [beq_eq_false_iff_ne,List.length_map];omega,cond_false,rdM1 hc.mb,aI_v,rdM1 hc.mb,aI_v,e2]
  rw [show w6 ((tx.length:Int)+1+z1)=(tx.length:Int)+1+1 from bs5 (by show -9223372036854775808<=(tx.length:Int)+1+1/\(tx.length:Int)+1+1<=9223372036854775807;omega)]
  rw [wrM1 hc.mb]
  show rd1 (s.set m (.box (boxM M' gv true))) m 0 _=_
  rw [hs1,rdM0 hc2.mb]
  show (match s2[M.mp]? with | some (.map es c)=>_ | _=>none)=_
  rw [hk2']
  simp only
  unfold putK
  rw [bq4 tx _ (fun T hT=>by
   obtain ⟨j,hj⟩:=List.getElem?_of_mem hT
   have:=(hc.tx j T hj).1
   have:=ad9 hj
   omega)]
  rfl
 ·rw [get2 m (fun e=>hmpm e.symm)];exact hc3.mb
 ·show (if m<s1.length then col2 m else tx.length+2)=0;rw [if_pos (by omega)];exact hc3.cm
 ·show (if M.mp<s1.length then col2 M.mp else tx.length+2)=0;rw [if_pos hmp2];exact hc3.cmp
 ·have h1:=(hc2.cl id k n c e).1
  have h2:=hc2.cmp
  exact get2 id fun e=>by rw [e] at h1;have h2:col2 M.mp=0:=h2;omega
 ·have h1:=hc2.cl id k n c e
  show (if id<s1.length then col2 id else tx.length+2)=1/\_
  rw [if_pos h1.2];exact ⟨h1.1,by rw [List.length_set,hlen2];omega⟩
 ·show (s2.set M.mp (.map es kk))[M.mp]? =_
  rw [List.getElem?_set_self (by omega),List.map_append]
  simp only [es,List.map_cons,List.map_nil,List.length_append,List.length_cons,List.length_nil]
  rfl
 ·by_cases hit:i<tx.length
  ·rw [List.getElem?_append_left hit] at hi
   obtain ⟨g1,c,r,g2,g3,g4,g5,g6⟩:=hc2.tx i T hi
   obtain ⟨_,c',r',f2,f3,_⟩:=hc3.tx i T hi
   have hqb:T.q<s1.length:=by obtain ⟨k,hk⟩:=g2.qt;exact ad9 hk
   have hbb:=ad9 g2.box
   have hc0:col2 M.mp=0:=hc2.cmp
   have gl:∀j,j<s1.length->col2 j≠0->(s2.set M.mp (.map es kk))[j]? =s1[j]? :=by
    intro j hj hne
    rw [get2 j (fun e=>hne (by rw [e];exact hc0))]
    show ((s1++[O.map [] 0])++[O.box (boxC newC T0)])[j]? =_
    rw [List.getElem?_append_left (by simp;omega),List.getElem?_append_left hj]
   refine ⟨g1,c,r,g2.low (gl _ hbb (by omega)) (gl _ hqb (by omega)) (gl _ g3 (by omega)),by rw [List.length_set,hlen2];omega,?_,?_,?_⟩
   ·show (if T.b<s1.length then col2 T.b else tx.length+2)=i+2;rw [if_pos hbb];exact g4
   ·show (if T.q<s1.length then col2 T.q else tx.length+2)=i+2;rw [if_pos hqb];exact g5
   ·show (if r<s1.length then col2 r else tx.length+2)=i+2;rw [if_pos g3];exact g6
  ·rw [List.getElem?_append_right (by omega)] at hi
   have hi0:i=tx.length:=by
    have:=ad9 hi
    simp at this;omega
   subst hi0
   simp at hi
   subst hi
   refine ⟨rfl,newC,s1.length+1,⟨?_,⟨aq7,aq7,aq7,aq7,aq7,aq7,rfl⟩,⟨1,rfl⟩,⟨0,?_⟩⟩,by rw [List.length_set,hlen2];omega,?_,?_,?_⟩
   ·show (s2.set M.mp (.map es kk))[s1.length+1]? =_;rw [get2 _ (by omega)];exact hb0
   ·show (s2.set M.mp (.map es kk))[s1.length]? =_;rw [get2 _ (by omega)];exact hq0
   ·show (if s1.length+1<s1.length then _ else tx.length+2)=_;rw [if_neg (by omega)]
   ·show (if s1.length<s1.length then _ else tx.length+2)=_;rw [if_neg (by omega)]
   ·show (if s1.length+1<s1.length then _ else tx.length+2)=_;rw [if_neg (by omega)]
 ·obtain ⟨j,T,h1,h2⟩:=hm y hy
  exact ⟨j,T,by rw [List.getElem?_append_left (ad9 h1)];exact h1,h2⟩
end Go.Proofs.YtnpjififnhjbbaaDoor.E
set_option maxRecDepth 100000
namespace Go.Proofs.YtnpjififnhjbbaaDoor.E
open Go
theorem ret_eq {x y:Bool}{s:List O}(h:x=y):(some (.ret [.bool x] s):R)=some (.ret [.bool y] s):=by rw [h]
theorem bm8 {s:ByteArray}{i:Nat}{c:UInt8}(h:s[i]? =some c)(K:Int->R):bc8 s (i:Int) K=K c.toNat:=by
 unfold bc8
 rw [if_pos (by omega),show ((i:Int)).toNat=i from rfl,h]
theorem getAt {s:ByteArray}{i:Nat}(h:i<s.size):∃c,s[i]? =some c:=⟨s[i],by simp [h]⟩
def chB (z:Bool)(c:Int):Bool:=decide (97<=c/\c<=122)||(!z&&decide (48<=c/\c<=57))
def nmF (s:ByteArray):Nat->Nat->Bool
 | 0,_=>true
 | k+1,i=>(match s[i]? with | some c=>chB (i==0) c.toNat | none=>false)&&nmF s k (i+1)
def aE3 (s:ByteArray):Bool:=nmF s s.size 0&&(!decide (s=⟨#[]⟩)&&decide (s.size<=32))
theorem iz (i:Nat):((i:Int)==z0)=(i==0):=by
 rw [Bool.eq_iff_iff,beq_iff_eq,beq_iff_eq];show (i:Int)=0↔_;omega
theorem bq1 {s:ByteArray}(hs:s.size<9223372036854775808):∀(k i:Nat),i+k=s.size->an5.L0 RZ s s.size i=some (.ret [.bool (nmF s k i&&(!decide (s=⟨#[]⟩)&&decide (s.size<=32)))] [])
 | 0,i,h=>by
  obtain rfl:i=s.size:=by omega
  have J2:∀b,an5.J2 RZ b=some (.ret [.bool b] []):=fun b=>an5.ar1 b rfl
  apply an5.ag4
  unfold an5.L0b
  rw [ag2,cond_false,strB,J2,J2,show nmF s 0 s.size=true from rfl,Bool.true_and,aH1 (show ((s.size:Int)<=32)↔s.size<=32 by omega)]
  cases decide (s=⟨#[]⟩)<;>rfl
 | k+1,i,h=>by
  have ih:=bq1 hs k (i+1) (by omega)
  obtain ⟨c,hc⟩:=getAt (s:=s) (i:=i) (by omega)
  have J1:∀b,an5.J1 RZ s s.size i b=some (.ret [.bool (!b&&(nmF s k (i+1)&&(!decide (s=⟨#[]⟩)&&decide (s.size<=32))))] []):=by
   intro b
   apply an5.ak6
   unfold an5.J1b
   cases b with
   | true=>rfl
   | false=>rw [cond_false,w6_1 (by omega)];exact ih
  apply an5.ag4
  unfold an5.L0b
  rw [ah8 (by omega)]
  simp only [cond_true,bm8 hc,J1,iz,Bool.not_true,Bool.not_false,Bool.true_and,Bool.false_and]
  rw [show (nmF s (k+1) i&&(!decide (s=⟨#[]⟩)&&decide (s.size<=32)))=(chB (i==0) c.toNat&&(nmF s k (i+1)&&(!decide (s=⟨#[]⟩)&&decide (s.size<=32)))) from by rw [show nmF s (k+1) i=((match s[i]? with | some c=>chB (i==0) c.toNat | none=>false)&&nmF s k (i+1)) from rfl,hc];simp only [Bool.and_assoc]]
  generalize (nmF s k (i+1)&&(!decide (s=⟨#[]⟩)&&decide (s.size<=32)))=t
  generalize ((c.toNat:Nat):Int)=c
  unfold chB
  by_cases h1:c<97
  ·rw [decide_eq_true h1,cond_true,show decide (97<=c/\c<=122)=false from decide_eq_false (by omega),Bool.false_or]
   cases (i==0) with
   | true=>rfl
   | false=>
    rw [cond_false,Bool.not_false,Bool.true_and]
    by_cases h2:c<48
    ·rw [decide_eq_true h2,cond_true,show decide (48<=c/\c<=57)=false from decide_eq_false (by omega)];rfl
    ·rw [decide_eq_false h2,cond_false]
     refine ret_eq ?_
     by_cases h3:c>57
     ·rw [decide_eq_true h3,show decide (48<=c/\c<=57)=false from decide_eq_false (by omega)];rfl
     ·rw [decide_eq_false h3,show decide (48<=c/\c<=57)=true from decide_eq_true (by omega)];rfl
  ·rw [decide_eq_false h1,cond_false]
   by_cases h2:c>122
   ·rw [decide_eq_true h2,cond_true,show decide (97<=c/\c<=122)=false from decide_eq_false (by omega),Bool.false_or,show decide (48<=c/\c<=57)=false from decide_eq_false (by omega),Bool.and_false,Bool.false_and]
    cases (i==0) with
    | true=>rfl
    | false=>
     rw [cond_false,show decide (c<48)=false from decide_eq_false (by omega),cond_false,show decide (c>57)=true from decide_eq_true (by omega)];rfl
   ·rw [decide_eq_false h2,cond_false,show decide (97<=c/\c<=122)=true from decide_eq_true (by omega),Bool.true_or,Bool.true_and]
theorem named_is {s:ByteArray}(hs:s.size<9223372036854775808):RZ.R aS0 [vS s] []=some (.ret [.bool (aE3 s)] []):=by
 apply an5.b_of
 exact bq1 hs s.size 0 (by omega)
theorem bp8 {s:ByteArray}(hs:s.size<9223372036854775808):∀(k i:Nat),i+k=s.size->ah1.L0 RZ s s.size i=some (.ret [.bool (nmF s k i&&(!decide (s=⟨#[]⟩)&&decide (s.size<=32)))] [])
 | 0,i,h=>by
  obtain rfl:i=s.size:=by omega
  have J3:∀b,ah1.J3 RZ b=some (.ret [.bool b] []):=fun b=>ah1.aB4 b rfl
  apply ah1.ag4
  unfold ah1.L0b
  rw [ag2,cond_false,strB,J3,J3,show nmF s 0 s.size=true from rfl,Bool.true_and,aH1 (show ((s.size:Int)<=32)↔s.size<=32 by omega)]
  cases decide (s=⟨#[]⟩)<;>rfl
 | k+1,i,h=>by
  have ih:=bp8 hs k (i+1) (by omega)
  obtain ⟨c,hc⟩:=getAt (s:=s) (i:=i) (by omega)
  have J2:∀b,ah1.J2 RZ s s.size i b=some (.ret [.bool (!b&&(nmF s k (i+1)&&(!decide (s=⟨#[]⟩)&&decide (s.size<=32))))] []):=by
   intro b
   apply ah1.ar1
   unfold ah1.J2b
   cases b with
   | true=>rfl
   | false=>rw [cond_false,w6_1 (by omega)];exact ih
  have J1:∀b,ah1.J1 RZ s i b s.size i=some (.ret [.bool ((b||(!(i==0)&&decide (48<=(c.toNat:Int)/\(c.toNat:Int)<=57)))&&(nmF s k (i+1)&&(!decide (s=⟨#[]⟩)&&decide (s.size<=32))))] []):=by
   intro b
   apply ah1.ak6
   unfold ah1.J1b
   simp only [bm8 hc,J2,iz]
   generalize (nmF s k (i+1)&&(!decide (s=⟨#[]⟩)&&decide (s.size<=32)))=t
   generalize ((c.toNat:Nat):Int)=c
   cases b with
   | true=>rfl
   | false=>
    rw [Bool.not_false,cond_true,Bool.false_or]
    cases (i==0) with
    | true=>rfl
    | false=>
     rw [cond_false,Bool.not_false,Bool.true_and]
     by_cases h2:c<48
     ·rw [decide_eq_true h2,cond_true,show decide (48<=c/\c<=57)=false from decide_eq_false (by omega)];rfl
     ·rw [decide_eq_false h2,cond_false]
      refine ret_eq ?_
      by_cases h3:c>57
      ·rw [decide_eq_true h3,show decide (48<=c/\c<=57)=false from decide_eq_false (by omega)];rfl
      ·rw [decide_eq_false h3,show decide (48<=c/\c<=57)=true from decide_eq_true (by omega)];rfl
  apply ah1.ag4
  unfold ah1.L0b
  rw [ah8 (by omega)]
  simp only [cond_true,bm8 hc,J1]
  rw [show (nmF s (k+1) i&&(!decide (s=⟨#[]⟩)&&decide (s.size<=32)))=(chB (i==0) c.toNat&&(nmF s k (i+1)&&(!decide (s=⟨#[]⟩)&&decide (s.size<=32)))) from by rw [show nmF s (k+1) i=((match s[i]? with | some c=>chB (i==0) c.toNat | none=>false)&&nmF s k (i+1)) from rfl,hc];simp only [Bool.and_assoc]]
  unfold chB
  by_cases h1:(c.toNat:Int)>=97
  ·rw [decide_eq_true h1,cond_true,aH1 (show (c.toNat:Int)<=122↔(97<=(c.toNat:Int)/\(c.toNat:Int)<=122) from ⟨fun h=>⟨h1,h⟩,fun h=>h.2⟩)]
  ·rw [decide_eq_false h1,cond_false,show decide (97<=(c.toNat:Int)/\(c.toNat:Int)<=122)=false from decide_eq_false fun h=>h1 h.1]
theorem rName_is {s:ByteArray}(hs:s.size<9223372036854775808):RZ.R aN1 [vS s] []=some (.ret [.bool (aE3 s)] []):=by
 apply ah1.b_of
 exact bp8 hs s.size 0 (by omega)
theorem aK3 {s:ByteArray}(h:aE3 s=true):s.size<=32:=by
 unfold aE3 at h
 simp only [Bool.and_eq_true,decide_eq_true_iff] at h
 exact h.2.2
end Go.Proofs.YtnpjififnhjbbaaDoor.E
set_option maxRecDepth 100000
namespace Go.Proofs.YtnpjififnhjbbaaDoor.E
open Go
def nmsF (l:List By):Nat->Nat->Bool
 | 0,_=>true
 | k+1,i=>(match l[i]? with | some s=>aE3 s&&!hasS s (l.take i) | none=>false)&&nmsF l k (i+1)
def ah7 (l:List By):Bool:=nmsF l l.length 0&&decide (l.length<=6)
theorem take_cstrs (l:List ByteArray)(i:Nat):((aa1 l).take ((i:Int)).toNat).drop (z0:Int).toNat=aa1 (l.take i):=by
 show ((aa1 l).take i).drop 0=_
 rw [List.drop_zero];unfold aa1;rw [List.map_take]
def sOk (l:List By):Prop:=l.length<9223372036854775808/\∀s∈l,s.size<9223372036854775808
theorem hasS_cons (x y:By)(l:List By):hasS x (y::l)=(decide (x=y)||hasS x l):=rfl
theorem bx3 {m1 m4 m8:Bool}{l:List By}{x:By}{n:Int}{q:List By}(hq:q.length<9223372036854775808){o:Out}(hL:hasS x q=true->some (Out.ret [V.bool false] [])=some o)(hR:hasS x q=false->ag8.L0 RZ m1 (aa1 l) m4 (aa1 l) l.length (w6 (n+z1))=some o):∀(k i:Nat),i+k=q.length->hasS x (q.take i)=false ->
  ag8.L1 RZ m1 (aa1 l) x m4 (aa1 l) l.length n m8 (aa1 q) q.length i=some o
 | 0,i,h,ht=>by
  have hi:i=q.length:=by omega
  rw [hi,List.take_length] at ht
  rw [hi]
  apply ag8.bd6
  unfold ag8.L1b
  rw [ag2,cond_false]
  exact hR ht
 | k+1,i,h,ht=>by
  obtain ⟨y,hy⟩:=getL (l:=q) (i:=i) (by omega)
  have hil:=ad9 hy
  apply ag8.bd6
  unfold ag8.L1b
  rw [ah8 hil]
  simp only [cond_true,aj3 hy,V.cells,aC_v,aS_v,aN_v,strB]
  by_cases e:y=x
  ·rw [decide_eq_true e,cond_true]
   exact hL (by rw [aq3,←e];exact List.mem_of_getElem? hy)
  ·rw [decide_eq_false e,cond_false,w6_1 (by omega)]
   refine bx3 hq hL hR k (i+1) (by omega) ?_
   rw [aB6 hy]
   cases hh:hasS x (q.take i++[y]) with
   | false=>rfl
   | true=>
    rw [aq3,List.mem_append,List.mem_singleton] at hh
    rcases hh with hh | hh
    ·rw [←aq3,ht] at hh;cases hh
    ·exact absurd hh.symm e
theorem bf3 {m1 m4:Bool}{l:List By}(hl:sOk l):∀(k i:Nat),i+k=l.length->ag8.L0 RZ m1 (aa1 l) m4 (aa1 l) l.length i=some (.ret [.bool (nmsF l k i&&decide (l.length<=6))] [])
 | 0,i,h=>by
  obtain rfl:i=l.length:=by omega
  apply ag8.ag4
  unfold ag8.L0b
  rw [ag2,cond_false,ab9,aH1 (show ((l.length:Int)<=6)↔l.length<=6 by omega)]
  rfl
 | k+1,i,h=>by
  have ih:=bf3 (m1:=m1) (m4:=m4) hl k (i+1) (by omega)
  have hll:=hl.1
  obtain ⟨x,hx⟩:=getL (l:=l) (i:=i) (by omega)
  have hsz:=hl.2 x (List.mem_of_getElem? hx)
  apply ag8.ag4
  unfold ag8.L0b
  rw [ah8 (by omega)]
  simp only [cond_true,aj3 hx,V.cells,aC_v,aS_v,aN_v,rName_is (show x.size<9223372036854775808 by omega),cP_B,aB_v]
  rw [show nmsF l (k+1) i=((match l[i]? with | some s=>aE3 s&&!hasS s (l.take i) | none=>false)&&nmsF l k (i+1)) from rfl,hx]
  simp only
  cases hn:aE3 x with
  | false=>simp only [Bool.not_false,cond_true,Bool.false_and];rfl
  | true=>
   rw [Bool.not_true,cond_false,ck_t (by rw [ab9];simp only [Bool.and_eq_true,decide_eq_true_iff];show (0:Int)<=0/\(0:Int)<=(i:Int)/\_;omega),take_cstrs,ab9]
   refine bx3 (by rw [List.length_take];omega) (fun hh=>?_) (fun hh=>?_) (l.take i).length 0 (by omega) rfl
   ·rw [hh];simp
   ·rw [w6_1 (by omega),ih,hh];simp
theorem bx2 {m:Bool}{l:List By}(hl:sOk l):RZ.R az4 [vL m 1 (aa1 l)] []=some (.ret [.bool (ah7 l)] []):=by
 apply ag8.b_of
 unfold ag8.b
 rw [ab9]
 exact bf3 hl l.length 0 (by omega)
theorem nmsF_iff {l:List By}:∀(k i:Nat),i+k=l.length->nmsF l k i=true->∀j,i<=j->∀x,l[j]? =some x->aE3 x=true/\hasS x (l.take j)=false
 | 0,i,h,_,j,hj,x,hx=>by have:=ad9 hx;omega
 | k+1,i,h,hn,j,hj,x,hx=>by
  rw [show nmsF l (k+1) i=((match l[i]? with | some s=>aE3 s&&!hasS s (l.take i) | none=>false)&&nmsF l k (i+1)) from rfl] at hn
  rw [Bool.and_eq_true] at hn
  by_cases e:i=j
  ·subst e
   rw [hx] at hn
   simp only [Bool.and_eq_true,Bool.not_eq_true'] at hn
   exact hn.1
  ·exact nmsF_iff k (i+1) (by omega) hn.2 j (by omega) x hx
theorem ar3 {l:List By}(h:ah7 l=true):l.length<=6/\∀(j:Nat) (x:By),l[j]? =some x->aE3 x=true/\hasS x (l.take j)=false:=by
 unfold ah7 at h
 rw [Bool.and_eq_true,decide_eq_true_iff] at h
 exact ⟨h.2,fun j x hx=>nmsF_iff l.length 0 (by omega) h.1 j (by omega) x hx⟩
theorem bb2 {l:List By}(h:ah7 l=true):l.Nodup:=by
 have h2:=(ar3 h).2
 rw [List.nodup_iff_pairwise_ne,List.pairwise_iff_getElem]
 intro i j hi hj hij e
 have hx:l[j]? =some l[j]:=by simp
 have e:l[i]? =some l[j]:=by rw [←e];simp
 generalize l[j]=x at hx e
 have h3:=(h2 j x hx).2
 have:hasS x (l.take j)=true:=by
  rw [aq3]
  have:(l.take j)[i]? =some x:=by rw [List.getElem?_take,if_pos hij];exact e
  exact List.mem_of_getElem? this
 rw [h3] at this;cases this
section
variable {s:List O} {b:Nat} {c:CV} {T:TX} (h:s[b]? =some (.box (boxC c T)))
theorem appC0 {s:List O}{b:Nat}{c:CV}{T:TX}(h:s[b]? =some (.box (boxC c T)))(hc:CR c T)(x:By)(hl:T.res.length<=1000000):∃v,isL 1 (aa1 (T.res++[x])) v/\nilS v=some false/\∀(K1:V->R) (K2:List O->R),rdT s b 0 K1 (fun v s'=>aL 1 v fun m e=>apK e [vS x] 16 (wrO s' b 0 [(vL (m||!([vS x]:List V).isEmpty) 1 (e++[vS x]),true)] fun s''=>K2 s''))=K2 (s.set b (.box (boxC {c with c0:=v} T))):=by
 obtain ⟨nn,h1,h2⟩:=hc.h0.aL
 refine ⟨_,by rw [←ak9];exact aG8 (nn:=nn),by cases nn<;>rfl,fun K1 K2=>?_⟩
 unfold rdT
 rw [h]
 show aL 1 c.c0 _=_
 rw [h2]
 unfold apK
 rw [ck_t (by rw [ab9];simp only [List.length_cons,List.length_nil,Bool.and_eq_true,Nat.ble_eq];omega)]
 rw [af6 (ad5 h) (Nat.le_of_ble_eq_true rfl),ak0]
 rfl
end
theorem MgR.step {s:List O}{m mp:Nat}{nx:Int}{op:Bool}{lg:List By}{tx:List TX}{ln:List Nat}(h:MgR s m mp nx op lg tx ln){i:Nat}{T:TX}(hi:tx[i]? =some T):∃M gv c r,PT s m M lg gv c r T/\∀{s':List O} {lg':List By} {T':TX},Step s m M r s' lg' T'->T'.b=T.b->T'.q=T.q->T'.num=T.num->MgR s' m mp nx op lg' (tx.set i T') ln:=by
 obtain ⟨M,gv,col,e1,e2,e3,hc,hm⟩:=h
 obtain ⟨c,r,hp,hcb,hcq,hcr⟩:=hc.pt hi
 refine ⟨M,gv,c,r,hp,fun {s' lg' T'} hs hb hq hn=>?_⟩
 obtain ⟨gv1,col1,hc1⟩:=hc.step hi hp hcr hs hb hq hn
 exact ⟨M,gv1,col1,e1,e2,e3,hc1,fun y hy=>bt6 hi hb (hm y hy)⟩
theorem bD9 {s:List O}{m mp:Nat}{nx:Int}{op:Bool}{lg:List By}{tx:List TX}{ln:List Nat}(h:MgR s m mp nx op lg tx ln){i:Nat}{T:TX}(hi:tx[i]? =some T){x:By}(hx:aE3 x=true)(hst:T.st=1)(hh:hasS x T.res=false)(hl:T.res.length<20):∃s',RZ.R ae8 [vO m 0,vI ((i:Int)+1),vS x] s=some (.ret [vI 0] s')/\MgR s' m mp nx op lg (tx.set i {T with res:=T.res++[x]}) ln:=by
 have hf:=aS5 h hi
 have hsz:=aK3 hx
 obtain ⟨M,gv,c,r,hp,hk⟩:=h.step hi
 obtain ⟨n0,a0,e0⟩:=hp.tx.cr.h0.aL
 obtain ⟨v,hv,hn,ea⟩:=appC0 hp.box hp.tx.cr x (by omega)
 have hp2:=hp.putS (c':={c with c0:=v}) (T':={T with res:=T.res++[x]}) ⟨hv,hp.tx.cr.h1,hp.tx.cr.h8,hp.tx.cr.h9,hp.tx.cr.h10,hp.tx.cr.h12,by show nilS v=some (T.res++[x]).isEmpty;rw [hn];simp⟩
 refine ⟨_,?_,hk hp2 rfl rfl rfl⟩
 have hcall:∀K KP,aD5 RZ.R (.func (.func 27) [] []) [vO T.b 0] s K KP=K (vO T.b 0) s:=fun K KP=>bj0 (g:=27) (by kernel_rfl) (a:=[]) (b:=[]) (s':=s) (aE2.b_of _ _ _ rfl) rfl
 have hadd:RZ.R ap1 [vO m 0,vI ((i:Int)+1),vS x,.func (.func 27) [] []] s=some (.ret [vI 0] (s.set T.b (.box (boxC {c with c0:=v} {T with res:=T.res++[x]})))):=by
  apply ar8.b_of
  unfold ar8.b
  rw [named_is (by omega),cP_B,aB_v,hx,Bool.not_true,cond_false,cT_v hf]
  simp only [aT_v,aC_v,aI_v,aN_v,show ((0:Int) !=z0)=false from rfl,cond_false,hcall,aO_v,Nat.reduceAdd,rdC4 hp.box,show (T.st !=z1)=false from by rw [hst];rfl,rdC0 hp.box,e0]
  rw [cS_v (at4 (SLof (isLn a0)) (by omega)),aB_v,hh,cond_false]
  rw [rdC0 hp.box,e0,ab9,show (((T.res.length:Nat):Int)==(20:Int))=false from by rw [beq_eq_false_iff_ne];omega,cond_false]
  rw [show boxC {c with c0:=v} {T with res:=T.res++[x]}=boxC {c with c0:=v} T from rfl]
  exact (ea _ _).trans (retRv _ _)
 apply aw2.b_of
 unfold aw2.b
 rw [cS_v hadd]
 rfl
theorem Enlist_shut {s:List O}{m mp:Nat}{nx:Int}{op:Bool}{lg:List By}{tx:List TX}{ln:List Nat}(h:MgR s m mp nx op lg tx ln){i:Nat}{T:TX}(hi:tx[i]? =some T){x:By}(hx:aE3 x=true)(hst:T.st≠1):RZ.R ae8 [vO m 0,vI ((i:Int)+1),vS x] s=some (.ret [vI 9] s):=by
 have hf:=aS5 h hi
 have hsz:=aK3 hx
 obtain ⟨M,gv,c,r,hp,hk⟩:=h.step hi
 have hcall:∀K KP,aD5 RZ.R (.func (.func 27) [] []) [vO T.b 0] s K KP=K (vO T.b 0) s:=fun K KP=>bj0 (g:=27) (by kernel_rfl) (a:=[]) (b:=[]) (s':=s) (aE2.b_of _ _ _ rfl) rfl
 have hadd:RZ.R ap1 [vO m 0,vI ((i:Int)+1),vS x,.func (.func 27) [] []] s=some (.ret [vI 9] s):=by
  apply ar8.b_of
  unfold ar8.b
  rw [named_is (by omega),cP_B,aB_v,hx,Bool.not_true,cond_false,cT_v hf]
  simp only [aT_v,aC_v,aI_v,aN_v,show ((0:Int) !=z0)=false from rfl,cond_false,hcall,aO_v,Nat.reduceAdd,rdC4 hp.box,show (T.st !=z1)=true from bne_iff_ne.2 hst,cond_true]
  rfl
 apply aw2.b_of
 unfold aw2.b
 rw [cS_v hadd]
 rfl
theorem Mark_is {s:List O}{m mp:Nat}{nx:Int}{op:Bool}{lg:List By}{tx:List TX}{ln:List Nat}(h:MgR s m mp nx op lg tx ln){i:Nat}{T:TX}(hi:tx[i]? =some T)(hst:T.st=1∨T.st=2):∃s',RZ.R bC2 [vO m 0,vI ((i:Int)+1)] s=some (.ret [vI 0] s')/\MgR s' m mp nx op lg (tx.set i {T with st:=2}) ln:=by
 have hf:=aS5 h hi
 obtain ⟨M,gv,c,r,hp,hk⟩:=h.step hi
 have hp2:=hp.putS (c':=c) (T':={T with st:=2}) ⟨hp.tx.cr.h0,hp.tx.cr.h1,hp.tx.cr.h8,hp.tx.cr.h9,hp.tx.cr.h10,hp.tx.cr.h12,hp.tx.cr.n0⟩
 refine ⟨_,?_,hk hp2 rfl rfl rfl⟩
 have J0:bs2.J0 RZ (vO T.b 0) false s=some (.ret [vI 0] (s.set T.b (.box (boxC c {T with st:=2})))):=by
  apply bs2.am9
  unfold bs2.J0b
  simp only [cond_false,aO_v,Nat.reduceAdd,wrC4 hp.box]
  rfl
 apply bs2.b_of
 unfold bs2.b
 rw [cT_v hf]
 simp only [aT_v,aC_v,aI_v,aN_v,show ((0:Int) !=z0)=false from rfl,cond_false,aO_v,Nat.reduceAdd,rdC4 hp.box]
 rcases hst with e | e
 ·rw [e];exact J0
 ·rw [e];exact J0
theorem State_is {s:List O}{m mp:Nat}{nx:Int}{op:Bool}{lg:List By}{tx:List TX}{ln:List Nat}(h:MgR s m mp nx op lg tx ln){i:Nat}{T:TX}(hi:tx[i]? =some T):RZ.R aq9 [vO m 0,vI ((i:Int)+1)] s=some (.ret [vI T.st,vI 0] s):=by
 have hf:=aS5 h hi
 obtain ⟨M,gv,c,r,hp,hk⟩:=h.step hi
 apply ax6.b_of
 unfold ax6.b
 rw [cT_v hf]
 simp only [aT_v,aC_v,aI_v,aN_v,show ((0:Int) !=z0)=false from rfl,cond_false,aO_v,Nat.reduceAdd,rdC4 hp.box]
 rfl
end Go.Proofs.YtnpjififnhjbbaaDoor.E
set_option maxRecDepth 100000
namespace Go.Proofs.YtnpjififnhjbbaaDoor.E
open Go
theorem bx8 {s:List O}{m mp:Nat}{nx:Int}{op:Bool}{lg:List By}{tx:List TX}{ln:List Nat}(h:MgR s m mp nx op lg tx ln)(hl:tx.length<1000){n:Int}(hn:1<=n):∀(d:Nat) (k:Int),k=n+d->k<=tx.length->ad7.L0 RZ m 0 n (vL false 0 []) k s=some (.ret [vL false 0 []] s)
 | 0,k,hk,hkt=>by
  apply ad7.ag4
  unfold ad7.L0b
  rw [show decide (k>n)=false from decide_eq_false (by omega),cond_false]
  rfl
 | d+1,k,hk,hkt=>by
  have ih:=bx8 h hl hn d (k-1) (by omega) (by omega)
  have h0:=h
  obtain ⟨M,gv,col,e1,e2,e3,hc,hm⟩:=h
  obtain ⟨kk,hkk⟩:=hc.mp
  obtain ⟨T,hT⟩:=getL (l:=tx) (i:=(k-1).toNat) (by omega)
  obtain ⟨c,r,hp,_⟩:=hc.pt hT
  have hfv:=bk4 tx 0 (k-1).toNat T (fun j T hj=>by have:=(hc.tx j T hj).1;omega) hT
  rw [show (0:Int)+((k-1).toNat:Int)+1=k from by omega] at hfv
  have J1:ad7.J1 RZ m 0 n (vL false 0 []) k (vO T.b 0) false s=some (.ret [vL false 0 []] s):=by
   apply ad7.ak6
   unfold ad7.J1b
   rw [cond_false]
   apply ad7.ar1
   unfold ad7.J2b
   rw [show w6 (k-z1)=k-1 from bs5 (by show -9223372036854775808<=k-1/\k-1<=9223372036854775807;omega)]
   exact ih
  apply ad7.ag4
  unfold ad7.L0b
  simp only [Nat.reduceAdd]
  rw [show decide (k>n)=true from decide_eq_true (by omega),cond_true,rdM0 hc.mb]
  show mapK s M.mp _=_
  unfold mapK
  rw [hkk]
  simp only
  unfold ar6
  rw [hfv]
  simp only [Option.getD_some,at0,Bool.not_false,cond_true,aO_v,rdC3 hp.box,aI_v]
  rw [show ((0:Int)==n)=false from by rw [beq_eq_false_iff_ne];omega,cond_false]
  exact J1
theorem bD5 {s:List O}{m mp:Nat}{op:Bool}{lg:List By}{tx:List TX}{ln:List Nat}(h:MgR s m mp ((tx.length:Int)+1) op lg tx ln)(hl:tx.length<1000){i:Nat}(hi:i<tx.length):RZ.R as1 [vO m 0,vI ((i:Int)+1)] s=some (.ret [vL false 0 []] s):=by
 have hk:=bx8 h hl (n:=(i:Int)+1) (by omega) (tx.length-(i+1)) tx.length (by omega) (by omega)
 obtain ⟨M,gv,col,e1,e2,e3,hc,hm⟩:=h
 apply ad7.b_of
 unfold ad7.b
 simp only [Nat.reduceAdd]
 rw [rdM1 hc.mb,aI_v,e2,show w6 ((tx.length:Int)+1-z1)=tx.length from by
  rw [show (tx.length:Int)+1-z1=tx.length from by show (tx.length:Int)+1-1=_;omega]
  exact bs5 (by omega)]
 exact hk
theorem MgR.line {s:List O}{m mp:Nat}{nx:Int}{op:Bool}{lg:List By}{tx:List TX}{ln:List Nat}(h:MgR s m mp nx op lg tx ln)(hll:ln.length<=1000000){i:Nat}{T:TX}(hi:tx[i]? =some T):∃v0 v s1 s2,(∀K:V->R,rd1 s m 2 K=K v0)/\apS 1 8 s (v0,.no) (vL true 1 [vO T.b 0])=some (v,s1)/\v.good=true/\(∀K:List O->R,wrO s1 m 2 [(v,nilB v)] K=K s2)/\MgR s2 m mp nx op lg tx (ln++[T.b]):=by
 obtain ⟨M,gv,col,e1,e2,e3,hc,hm⟩:=h
 obtain ⟨v,s1,g1,g2,g3,g4,g5,g6⟩:=ln_app hc.ln hll T.b
 have hcm:=hc.cm
 have hm1:s1[m]? =some (.box (boxM M gv true)):=by
  rw [g6 m (ad9 hc.mb) (fun k n c e=>by have:=(hc.cl m k n c e).1;omega)];exact hc.mb
 obtain ⟨col2,hc2⟩:=hc.setM (s0:=s1) {M with lv:=v,lf:=nilB v} rfl g4 (ln':=ln++[T.b]) g3 (fun id k n c e=>(g5 id k n c e).1) (fun id k n c e=>(g5 id k n c e).2) g6
 refine ⟨M.lv,v,s1,_,fun K=>rdM2 hc.mb K,g1,g2,fun K=>wrM2 hm1 v _ K,{M with lv:=v,lf:=nilB v},_,_,e1,e2,e3,hc2,fun y hy=>?_⟩
 rcases List.mem_append.1 hy with hy | hy
 ·exact hm y hy
 ·rw [List.mem_singleton] at hy;exact ⟨i,T,hi,hy.symm⟩
theorem Commit_shut {s:List O}{m mp:Nat}{nx:Int}{op:Bool}{lg:List By}{tx:List TX}{ln:List Nat}(h:MgR s m mp nx op lg tx ln){i:Nat}{T:TX}(hi:tx[i]? =some T)(hst:T.st>2):RZ.R ag0 [vO m 0,vI ((i:Int)+1)] s=some (.ret [vI 9] s):=by
 have hf:=aS5 h hi
 obtain ⟨M,gv,c,r,hp,hk⟩:=h.step hi
 apply ac7.b_of
 unfold ac7.b
 rw [cT_v hf]
 simp only [aT_v,aC_v,aI_v,aN_v,show ((0:Int) !=z0)=false from rfl,cond_false,aO_v,Nat.reduceAdd,rdC4 hp.box]
 rw [decide_eq_true hst,cond_true]
 exact ac7.am9 _ _ _ _ _ _ rfl
theorem Rollback_shut {s:List O}{m mp:Nat}{nx:Int}{op:Bool}{lg:List By}{tx:List TX}{ln:List Nat}(h:MgR s m mp nx op lg tx ln){i:Nat}{T:TX}(hi:tx[i]? =some T)(hst:T.st>2):RZ.R ae5 [vO m 0,vI ((i:Int)+1)] s=some (.ret [vI 9] s):=by
 have hf:=aS5 h hi
 obtain ⟨M,gv,c,r,hp,hk⟩:=h.step hi
 apply ah5.b_of
 unfold ah5.b
 rw [cT_v hf]
 simp only [aT_v,aC_v,aI_v,aN_v,show ((0:Int) !=z0)=false from rfl,cond_false,aO_v,Nat.reduceAdd,rdC4 hp.box]
 rw [decide_eq_true hst,cond_true]
 rfl
theorem ckG {i j:Nat}(x:R):ck (vO i j).good x=x:=rfl
theorem ckA {i j k l:Nat}(x:R):ck ([vO i j,vO k l].all ad2) x=x:=rfl
theorem com_L1 {m:Nat}{mm:Bool}{s:List O}{c:CV}{T:TX}(hb:s[T.b]? =some (.box (boxC c T)))(hc:CR c T)(hl:T.wat.length<=400000)(hq:T.que.length<=400000):∃c',CR c' {T with que:=T.que++T.wat.map fun x=>(1,x)}/\c'.c11=c.c11/\∀o,(fun s8:List O=>rd1 s8 m 2 fun v25=>ck (V.good (vO T.b 0)) ((apS 1 8 s8 (v25,.no) (vL true 1 [vO T.b 0])).bind fun q26=>ck (V.good q26.1) (wrO q26.2 m 2 [(q26.1,(nilB q26.1))] fun s27=>ck (([(vO m 0),vO T.b 0]).all ad2) (as9 (RZ.R ac4 [(vO m 0),vO T.b 0] s27) (fun v28 s29=>aT v28 fun c30=>aN c30 (retR [(vI 0)] s29)) panK)))) (s.set T.b (.box (boxC c' {T with que:=T.que++T.wat.map fun x=>(1,x)})))=some o->ac7.L1 RZ m 0 (vO T.b 0) mm (aa1 T.wat) T.wat.length z0 s=some o:=by
 obtain ⟨c',h1,h2,h3⟩:=aP3 T.b T.wat 1 (fun i s=>ac7.L1 RZ m 0 (vO T.b 0) mm (aa1 T.wat) T.wat.length i s) (fun s8:List O=>rd1 s8 m 2 fun v25=>ck (V.good (vO T.b 0)) ((apS 1 8 s8 (v25,.no) (vL true 1 [vO T.b 0])).bind fun q26=>ck (V.good q26.1) (wrO q26.2 m 2 [(q26.1,(nilB q26.1))] fun s27=>ck (([(vO m 0),vO T.b 0]).all ad2) (as9 (RZ.R ac4 [(vO m 0),vO T.b 0] s27) (fun v28 s29=>aT v28 fun c30=>aN c30 (retR [(vI 0)] s29)) panK)))) (fun i x s s1 o hx ha ho=>by
   have hi:=ad9 hx
   have J6:ac7.J2 RZ m 0 (vO T.b 0) mm (aa1 T.wat) T.wat.length i s1=some o:=by
    apply ac7.ar1
    unfold ac7.J2b
    rw [w6_1 (by omega)];exact ho
   apply ac7.bd6
   unfold ac7.L1b
   rw [ah8 hi]
   simp only [cond_true,aj3 hx,V.cells,aC_v,aS_v,aN_v,Nat.reduceAdd,aO_v]
   exact (ha _ _).trans J6) (fun s o ho=>by
   apply ac7.bd6
   unfold ac7.L1b
   rw [ag2];simp only [Nat.reduceAdd];exact ho) T.wat.length 0 s c T (by omega) rfl hb hc (by omega)
 exact ⟨c',h1,h2,h3⟩
theorem aP2 :∀(f:Nat) (T:TX),(setT f T).num=T.num
 | 0,_=>rfl
 | f+1,T=>by
  unfold setT
  split
  ·split
   ·rw [aP2 f];unfold aj1 cmtT;split<;>(try split)<;>rfl
   split
   ·rw [aP2 f];unfold endT;split<;>rfl
   ·rfl
  ·rfl
theorem bE0 {s:List O}{m mp:Nat}{op:Bool}{lg:List By}{tx:List TX}{ln:List Nat}(h:MgR s m mp ((tx.length:Int)+1) op lg tx ln)(hl:tx.length<1000){i:Nat}{T:TX}(hi:tx[i]? =some T)(hst:T.st=1)(hq:T.que=[]){n:Nat}(hn:20<=n/\n<=20000)(hB:BT n T)(hw:∀x∈T.wat,x.size<=40)(hlg:lg.length<=90000)(hll:ln.length<=900000):
  ∃s',RZ.R ag0 [vO m 0,vI ((i:Int)+1)] s=some (.ret [vI 0] s')/\MgR s' m mp ((tx.length:Int)+1) op (lg++comL T) (tx.set i (comT T)) (aq6 (comT T) (ln++[T.b])):=by
 have hf:=aS5 h hi
 have hk:=bD5 h hl (ad9 hi)
 have hwl:=hB.wat
 obtain ⟨M,gv,c,r,hp,hstep⟩:=h.step hi
 obtain ⟨n1,a1,e1⟩:=hp.tx.cr.h1.aL
 have hp3:=hp.put (c':=c) (T':={T with st:=3}) ⟨hp.tx.cr.h0,hp.tx.cr.h1,hp.tx.cr.h8,hp.tx.cr.h9,hp.tx.cr.h10,hp.tx.cr.h12,hp.tx.cr.n0⟩
 obtain ⟨c',g1,g2,g3⟩:=com_L1 (m:=m) (mm:=n1) hp3.box hp3.tx.cr (by show T.wat.length<=_;omega) (by show T.que.length<=_;rw [hq];simp)
 have hs2:=hp3.putS g1 rfl rfl rfl rfl g2
 have hM2:=hstep (Step.pre (Fr.set s _ _ (by simp)) (.inl rfl) hs2) rfl rfl rfl
 have hi2:(tx.set i {T with st:=3,que:=T.que++T.wat.map fun x=>((1:Int),x)})[i]? =some {T with st:=3,que:=T.que++T.wat.map fun x=>((1:Int),x)}:=by rw [List.getElem?_set_self (ad9 hi)]
 obtain ⟨v0,v,s4,s5,l1,l2,l3,l4,l5⟩:=hM2.line (by omega) hi2
 have hB2:BT n {T with st:=3,que:=T.que++T.wat.map fun x=>((1:Int),x)}:=by
  refine ⟨hB.res,hB.wat,hB.num,?_,hB.yes,hB.dbt,hB.fgt,hB.rest,hB.nres,hB.nyes,fun k hk=>?_,hB.qt⟩
  ·show (T.que++T.wat.map fun x=>((1:Int),x)).length<=n
   rw [hq];simp;omega
  ·have hk:k∈T.que++T.wat.map fun x=>((1:Int),x):=hk
   rw [hq,List.nil_append] at hk
   exact hw _ (ay0 hk)
 obtain ⟨s6,q1,q2⟩:=ba0 l5 hi2 hn hB2 hw hlg (fin4 _) (by simp;omega)
 rw [List.set_set] at q2
 refine ⟨s6,?_,q2⟩
 apply ac7.b_of
 unfold ac7.b
 rw [cT_v hf]
 simp only [aT_v,aC_v,aI_v,aN_v,show ((0:Int) !=z0)=false from rfl,cond_false,aO_v,Nat.reduceAdd,rdC4 hp.box]
 rw [show decide (T.st>2)=false from decide_eq_false (by omega),cond_false,cS_v hk]
 show ac7.J0 RZ m 0 ((i:Int)+1) (vO T.b 0) false s=_
 apply ac7.am9
 unfold ac7.J0b
 simp only [cond_false,aO_v,Nat.reduceAdd,rdC4 hp.box,aI_v,show (T.st==(2:Int))=false from by rw [hst];rfl,rdC3 hp.box,show ((0:Int) !=z0)=false from rfl,wrC4 hp.box]
 rw [rdC1 hp3.box,e1,ab9]
 refine g3 _ ?_
 have q1:RZ.R ac4 [vO m 0,vO T.b 0] s5=some (.ret [] s6):=q1
 have l1':∀K:V->R,rd1 ((s.set T.b (.box (boxC c {T with st:=3}))).set T.b (.box (boxC c' {T with st:=3,que:=T.que++T.wat.map fun x=>((1:Int),x)}))) m 2 K=K v0:=l1
 have l2':apS 1 8 ((s.set T.b (.box (boxC c {T with st:=3}))).set T.b (.box (boxC c' {T with st:=3,que:=T.que++T.wat.map fun x=>((1:Int),x)}))) (v0,.no) (vL true 1 [vO T.b 0])=some (v,s4):=l2
 show rd1 ((s.set T.b (.box (boxC c {T with st:=3}))).set T.b (.box (boxC c' {T with st:=3,que:=T.que++T.wat.map fun x=>((1:Int),x)}))) m 2 (fun v25=>ck (V.good (vO T.b 0)) ((apS 1 8 ((s.set T.b (.box (boxC c {T with st:=3}))).set T.b (.box (boxC c' {T with st:=3,que:=T.que++T.wat.map fun x=>((1:Int),x)}))) (v25,.no) (vL true 1 [vO T.b 0])).bind fun q26=>ck (V.good q26.1) (wrO q26.2 m 2 [(q26.1,(nilB q26.1))] fun s27=>ck (([(vO m 0),vO T.b 0]).all ad2) (as9 (RZ.R ac4 [(vO m 0),vO T.b 0] s27) (fun v28 s29=>aT v28 fun c30=>aN c30 (retR [(vI 0)] s29)) panK))))=_
 rw [l1',ckG,l2',Option.bind_some,ck_t l3,l4,ckA,as3 q1]
 rfl
theorem Rollback_is {s:List O}{m mp:Nat}{op:Bool}{lg:List By}{tx:List TX}{ln:List Nat}(h:MgR s m mp ((tx.length:Int)+1) op lg tx ln)(hl:tx.length<1000){i:Nat}{T:TX}(hi:tx[i]? =some T)(hst:T.st<=2){n:Nat}(hn:20<=n/\n<=20000)(hB:BT n T)(hw:∀x∈T.wat,x.size<=40)(hlg:lg.length<=90000)(hll:ln.length<=900000):
  ∃s',RZ.R ae5 [vO m 0,vI ((i:Int)+1)] s=some (.ret [vI 0] s')/\MgR s' m mp ((tx.length:Int)+1) op (lg++rolL T) (tx.set i (rolT T)) (aq6 (rolT T) (ln++[T.b])):=by
 have hf:=aS5 h hi
 have hk:=bD5 h hl (ad9 hi)
 have hr:=hB.res
 have hy:=hB.yes
 obtain ⟨M,gv,c,r,hp,hstep⟩:=h.step hi
 obtain ⟨n0,a0,z0',e0⟩:=hp.tx.cr.h0.aLn
 obtain ⟨v,s2,s3,c2,r2,w1,w2,w3,w4,w5,w6⟩:=be3 hp (by omega) a0 z0'
 have hsl:((ar5 T.res).getD []).length<=20:=by
  unfold ar5
  cases hres:T.res with
  | nil=>simp
  | cons x l=>rw [hres] at hr;exact hr
 have hM1:=hstep ⟨gv,c2,r2,w4,w5,w6⟩ rfl rfl rfl
 have hi1:(tx.set i {T with rest:=ar5 T.res})[i]? =some {T with rest:=ar5 T.res}:=by rw [List.getElem?_set_self (ad9 hi)]
 obtain ⟨v0,u,s4,s5,l1,l2,l3,l4,l5⟩:=hM1.line (by omega) hi1
 obtain ⟨M2,gv2,c3,r3,hp3,hstep3⟩:=l5.step hi1
 obtain ⟨s6,b1,b2⟩:=backS hp3 (by show T.res.length<=_;omega) (by show T.yes.length<=_;omega) (by show ((ar5 T.res).getD []).length<=_;omega)
 have hM4:=hstep3 b2 rfl rfl rfl
 rw [List.set_set] at hM4
 have hi4:(tx.set i (au7 {T with rest:=ar5 T.res}))[i]? =some (au7 {T with rest:=ar5 T.res}):=by rw [List.getElem?_set_self (ad9 hi)]
 have hB1:BT n {T with rest:=ar5 T.res}:=⟨hB.res,hB.wat,hB.num,hB.que,hB.yes,hB.dbt,hB.fgt,hsl,hB.nres,hB.nyes,hB.nque,hB.qt⟩
 obtain ⟨s7,q1,q2⟩:=ba0 hM4 hi4 hn (hB1.back hn.1) hw hlg (fin4 _) (by simp;omega)
 rw [List.set_set] at q2
 refine ⟨s7,?_,q2⟩
 apply ah5.b_of
 unfold ah5.b
 rw [cT_v hf]
 simp only [aT_v,aC_v,aI_v,aN_v,show ((0:Int) !=z0)=false from rfl,cond_false,aO_v,Nat.reduceAdd,rdC4 hp.box]
 rw [show decide (T.st>2)=false from decide_eq_false (by omega),cond_false,cS_v hk]
 show ah5.L0 RZ m 0 (vO T.b 0) (vL false 0 []) 0 z0 s=_
 apply ah5.ag4
 unfold ah5.L0b
 rw [show decide (z0<(0:Int))=false from rfl,cond_false]
 simp only [aO_v,Nat.reduceAdd,rdC0 hp.box,e0]
 have b1:RZ.R ae9 [vO m 0,vO T.b 0] s5=some (.ret [] s6):=b1
 have q1:RZ.R ac4 [vO m 0,vO T.b 0] s6=some (.ret [] s7):=q1
 have l2':apS 1 8 s3 (v0,.no) (vL true 1 [vO T.b 0])=some (u,s4):=l2
 rw [cS_v w1,ck_t w2,w3,l1,ckG,l2',Option.bind_some,ck_t l3,l4,ckA,as3 b1,aT_v,aN_v,ckA,as3 q1]
 rfl
theorem Commit_marked {s s':List O}{m mp:Nat}{op:Bool}{lg:List By}{tx:List TX}{ln:List Nat}(h:MgR s m mp ((tx.length:Int)+1) op lg tx ln)(hl:tx.length<1000){i:Nat}{T:TX}(hi:tx[i]? =some T)(hst:T.st=2)(hr:RZ.R ae5 [vO m 0,vI ((i:Int)+1)] s=some (.ret [vI 0] s')):RZ.R ag0 [vO m 0,vI ((i:Int)+1)] s=some (.ret [vI 0] s'):=by
 have hf:=aS5 h hi
 have hk:=bD5 h hl (ad9 hi)
 obtain ⟨M,gv,c,r,hp,hstep⟩:=h.step hi
 apply ac7.b_of
 unfold ac7.b
 rw [cT_v hf]
 simp only [aT_v,aC_v,aI_v,aN_v,show ((0:Int) !=z0)=false from rfl,cond_false,aO_v,Nat.reduceAdd,rdC4 hp.box]
 rw [show decide (T.st>2)=false from decide_eq_false (by omega),cond_false,cS_v hk]
 show ac7.J0 RZ m 0 ((i:Int)+1) (vO T.b 0) false s=_
 apply ac7.am9
 unfold ac7.J0b
 simp only [cond_false,aO_v,Nat.reduceAdd,rdC4 hp.box,aI_v,show (T.st==(2:Int))=true from by rw [hst];rfl,cond_true]
 rw [cS_v hr]
 rfl
end Go.Proofs.YtnpjififnhjbbaaDoor.E
set_option maxRecDepth 100000
namespace Go.Proofs.YtnpjififnhjbbaaDoor.E
open Go
theorem chunks1 :∀(n:Nat) (l:List V),n<=l.length->chunks 1 n l=l.take n
 | 0,l,_=>rfl
 | n+1,[],h=>by simp at h
 | n+1,x::l,h=>by
  show (x::chunks 1 n l)=x::l.take n
  rw [chunks1 n l (by simpa using h)]
theorem bz9 {v:V}{l:List By}{s:List O}(hv:isL 1 (aa1 l) v)(hl:l.length<=1000000):∃u x w,RZ.R ac3 [v] s=some (.ret [u] (s++x))/\u.good=true/\frzV (s++x) u=some (w,s++(x.map fun _=>O.gone))/\isL 1 (aa1 l) w:=by
 by_cases h:l=[]
 ·subst h
  obtain ⟨v',h1,_,h3⟩:=(aK0 (s:=s) hv hl).2 rfl
  refine ⟨v',[],v',by rw [List.append_nil];exact h3,h1.good,?_,h1⟩
  rw [List.append_nil]
  rcases h1 with ⟨nn,rfl,_⟩ | ⟨_,k,rfl⟩<;>simp [frzV]
 ·have h1:=(aK0 (s:=s) hv hl).1 h
  refine ⟨_,[aF6 l],.list true 1 (aa1 l),h1,rfl,?_,aV8⟩
  unfold frzV
  simp only
  rw [aT1]
  unfold aF6
  simp only
  rw [ck_t (by
   rw [Bool.and_eq_true,Bool.and_eq_true]
   refine ⟨⟨Nat.ble_eq_true_of_le (by simp [aa1]),rfl⟩,?_⟩
   rw [List.all_map,List.all_eq_true]
   intro x _;rfl)]
  rw [List.drop_zero,List.map_map,chunks1 _ _ (by simp [aa1]),be1]
  rw [show ((fun x:V×Bool=>x.1)∘fun c:V=>(c,false))=id from rfl,List.map_id,show (aa1 l).take l.length=aa1 l from by rw [←ab9];exact List.take_length]
  rfl
theorem Log_is {s:List O}{m mp:Nat}{nx:Int}{op:Bool}{lg:List By}{tx:List TX}{ln:List Nat}(h:MgR s m mp nx op lg tx ln)(hl:lg.length<=1000000):∃s' v,RZ.R aj6 [vO m 0] s=some (.ret [v] s')/\isL 1 (aa1 lg) v/\MgR s' m mp nx op lg tx ln:=by
 have h0:=h
 obtain ⟨M,gv,col,e1,e2,e3,hc,hm⟩:=h
 obtain ⟨u,x,w,g1,g2,g3,g4⟩:=bz9 (s:=s) hc.lg hl
 refine ⟨_,w,?_,g4,h0.add (x.map fun _=>O.gone)⟩
 apply aB5.b_of
 unfold aB5.b
 simp only [Nat.reduceAdd]
 rw [rdM4 hc.mb,ck_t (by simp only [List.all_cons,hc.lg.ad2];rfl),cS_v g1,g3,Option.bind_some]
 unfold retK
 rw [ck_t (by rcases g4 with ⟨nn,rfl,_⟩ | ⟨_,k,rfl⟩<;>rfl)]
theorem bw1 {l:List By}{v:V}(h:isL 1 (aa1 l) v):aj2 v=true:=h.aj2 (ag7 l)
theorem bB7 {m1 m2:Bool}{a b:List By}(hl:a.length=b.length)(hs:a.length<9223372036854775808):∀(k i:Nat),i+k=a.length->aj7.L0 RZ m1 (aa1 a) m2 (aa1 b) a.length i=some (.ret [.bool (decide (a.drop i=b.drop i))] [])
 | 0,i,h=>by
  have hi:i=a.length:=by omega
  apply aj7.ag4
  unfold aj7.L0b
  rw [hi,ag2,cond_false,List.drop_length,hl,List.drop_length]
  rfl
 | k+1,i,h=>by
  have ih:=bB7 (m1:=m1) (m2:=m2) hl hs k (i+1) (by omega)
  obtain ⟨x,hx⟩:=getL (l:=a) (i:=i) (by omega)
  obtain ⟨y,hy⟩:=getL (l:=b) (i:=i) (by omega)
  apply aj7.ag4
  unfold aj7.L0b
  rw [ah8 (by omega),am8 hx,am8 hy]
  simp only [cond_true,aj3 hx,aj3 hy,V.cells,aC_v,aS_v,aN_v,strB]
  by_cases e:x=y
  ·rw [decide_eq_true e,Bool.not_true,cond_false,w6_1 (by omega),ih]
   refine ret_eq ?_
   rw [e,decide_eq_decide]
   simp
  ·rw [decide_eq_false e,Bool.not_false,cond_true,show decide (x::a.drop (i+1)=y::b.drop (i+1))=false from decide_eq_false fun h=>e (by injection h)]
   rfl
theorem bh5 {m1 m2:Bool}{a b:List By}(hs:a.length<9223372036854775808):RZ.R ag9 [vL m1 1 (aa1 a),vL m2 1 (aa1 b)] []=some (.ret [.bool (decide (a=b))] []):=by
 apply aj7.b_of
 unfold aj7.b
 rw [ab9,ab9]
 by_cases hl:a.length=b.length
 ·rw [show (((a.length:Nat):Int) !=((b.length:Nat):Int))=false from by rw [hl];simp,cond_false]
  exact bB7 hl hs a.length 0 (by omega)
 ·rw [show (((a.length:Nat):Int) !=((b.length:Nat):Int))=true from by rw [bne_iff_ne];omega,cond_true,decide_eq_false fun e=>hl (by rw [e])]
  rfl
theorem rAnswers_is {k:Int}(h:1<=k/\k<=7):RZ.R aC9 [vI k] []=some (.ret [vI (most k)] []):=by
 apply aX1.b_of
 have hk:k=1∨k=2∨k=3∨k=4∨k=5∨k=6∨k=7:=by omega
 rcases hk with rfl | rfl | rfl | rfl | rfl | rfl | rfl<;>rfl
end Go.Proofs.YtnpjififnhjbbaaDoor.E
set_option maxRecDepth 100000
namespace Go.Proofs.YtnpjififnhjbbaaDoor.E
open Go
structure PX where
 ords:List (Int×By)
 lines:List By
 com:Bool
 mix:Bool
 haz:Bool
 dbt:List By
 over:Bool
 unc:Bool
 num:Int
 ans:List Int
 stp:Bool
structure PV where
 o:V
 l:V
 d:V
 a:V
 fa:Bool
def boxP (c:PV)(P:PX):List (V×Bool):=[(c.o,true),(c.l,true),(vB P.com,false),(vB P.mix,false),(vB P.haz,false),(c.d,true),(vB P.over,false),(vB P.unc,false),(vI P.num,false),(c.a,c.fa),(vB P.stp,false)]
def ordV (n:Int)(l:List (Int×By)):List V:=l.map fun k=>vA [vI n,vI k.1,vS k.2]
def af5 (l:List Int):List V:=l.map vI
theorem ordV_app (n:Int)(l:List (Int×By))(k:Int×By):ordV n l++[vA [vI n,vI k.1,vS k.2]]=ordV n (l++[k]):=by unfold ordV;rw [List.map_append];rfl
structure CP (c:PV)(P:PX):Prop where
 o:isL 3 (ordV P.num P.ords) c.o
 l:isL 1 (aa1 P.lines) c.l
 d:isL 1 (aa1 P.dbt) c.d
 a:isL 1 (af5 P.ans) c.a
 bo:P.ords.length+P.ans.length<=1000
 bd:P.dbt.length<=P.ords.length
section
variable {s:List O} {c:PV} {P:PX} (h:s[0]? =some (.box (boxP c P)))
theorem rdP3 {s:List O}{c:PV}{P:PX}(h:s[0]? =some (.box (boxP c P)))(K:V->R):rd1 s 0 3 K=K (vB P.mix):=am4 (off:=3) (x:=(vB P.mix,false)) h rfl K
theorem rdP4 {s:List O}{c:PV}{P:PX}(h:s[0]? =some (.box (boxP c P)))(K:V->R):rd1 s 0 4 K=K (vB P.haz):=am4 (off:=4) (x:=(vB P.haz,false)) h rfl K
theorem rdP5 {s:List O}{c:PV}{P:PX}(h:s[0]? =some (.box (boxP c P)))(K:V->R):rd1 s 0 5 K=K c.d:=am4 (off:=5) (x:=(c.d,true)) h rfl K
theorem rdP8 {s:List O}{c:PV}{P:PX}(h:s[0]? =some (.box (boxP c P)))(K:V->R):rd1 s 0 8 K=K (vI P.num):=am4 (off:=8) (x:=(vI P.num,false)) h rfl K
theorem rdP9 {s:List O}{c:PV}{P:PX}(h:s[0]? =some (.box (boxP c P)))(K:V->R):rd1 s 0 9 K=K c.a:=am4 (off:=9) (x:=(c.a,c.fa)) h rfl K
theorem aR0 {s:List O}{c:PV}{P:PX}(h:s[0]? =some (.box (boxP c P)))(K:V->R):rd1 s 0 10 K=K (vB P.stp):=am4 (off:=10) (x:=(vB P.stp,false)) h rfl K
theorem wrP1 {s:List O}{c:PV}{P:PX}(h:s[0]? =some (.box (boxP c P)))(v:V)(K:List O->R):wrO s 0 1 [(v,true)] K=K (s.set 0 (.box (boxP {c with l:=v} P))):=af6 h (Nat.le_of_ble_eq_true rfl) K
theorem wrP2 {s:List O}{c:PV}{P:PX}(h:s[0]? =some (.box (boxP c P)))(x:Bool)(K:List O->R):wrO s 0 2 [(vB x,false)] K=K (s.set 0 (.box (boxP c {P with com:=x}))):=af6 h (Nat.le_of_ble_eq_true rfl) K
theorem wrP3 {s:List O}{c:PV}{P:PX}(h:s[0]? =some (.box (boxP c P)))(x:Bool)(K:List O->R):wrO s 0 3 [(vB x,false)] K=K (s.set 0 (.box (boxP c {P with mix:=x}))):=af6 h (Nat.le_of_ble_eq_true rfl) K
theorem wrP4 {s:List O}{c:PV}{P:PX}(h:s[0]? =some (.box (boxP c P)))(x:Bool)(K:List O->R):wrO s 0 4 [(vB x,false)] K=K (s.set 0 (.box (boxP c {P with haz:=x}))):=af6 h (Nat.le_of_ble_eq_true rfl) K
theorem wrP6 {s:List O}{c:PV}{P:PX}(h:s[0]? =some (.box (boxP c P)))(x:Bool)(K:List O->R):wrO s 0 6 [(vB x,false)] K=K (s.set 0 (.box (boxP c {P with over:=x}))):=af6 h (Nat.le_of_ble_eq_true rfl) K
theorem wrP7 {s:List O}{c:PV}{P:PX}(h:s[0]? =some (.box (boxP c P)))(x:Bool)(K:List O->R):wrO s 0 7 [(vB x,false)] K=K (s.set 0 (.box (boxP c {P with unc:=x}))):=af6 h (Nat.le_of_ble_eq_true rfl) K
theorem wrP9 {s:List O}{c:PV}{P:PX}(h:s[0]? =some (.box (boxP c P)))(v:V)(f:Bool)(K:List O->R):wrO s 0 9 [(v,f)] K=K (s.set 0 (.box (boxP {c with a:=v,fa:=f} P))):=af6 h (Nat.le_of_ble_eq_true rfl) K
theorem wrP10 {s:List O}{c:PV}{P:PX}(h:s[0]? =some (.box (boxP c P)))(x:Bool)(K:List O->R):wrO s 0 10 [(vB x,false)] K=K (s.set 0 (.box (boxP c {P with stp:=x}))):=af6 h (Nat.le_of_ble_eq_true rfl) K
theorem rdTP0 {s:List O}{c:PV}{P:PX}(h:s[0]? =some (.box (boxP c P)))(K1:V->R)(K2:V->List O->R):rdT s 0 0 K1 K2=K2 c.o (s.set 0 (.box ((boxP c P).set 0 (c.o,false)))):=by unfold rdT;rw [h];rfl
theorem wrTP0 {s:List O}{c:PV}{P:PX}(h:s[0]? =some (.box (boxP c P)))(v:V)(K:List O->R):wrO (s.set 0 (.box ((boxP c P).set 0 (c.o,false)))) 0 0 [(v,true)] K=K (s.set 0 (.box (boxP {c with o:=v} P))):=by
 rw [af6 (ad5 h) (Nat.le_of_ble_eq_true rfl),ak0];rfl
theorem rdTP5 {s:List O}{c:PV}{P:PX}(h:s[0]? =some (.box (boxP c P)))(K1:V->R)(K2:V->List O->R):rdT s 0 5 K1 K2=K2 c.d (s.set 0 (.box ((boxP c P).set 5 (c.d,false)))):=by unfold rdT;rw [h];rfl
theorem wrTP5 {s:List O}{c:PV}{P:PX}(h:s[0]? =some (.box (boxP c P)))(v:V)(K:List O->R):wrO (s.set 0 (.box ((boxP c P).set 5 (c.d,false)))) 0 5 [(v,true)] K=K (s.set 0 (.box (boxP {c with d:=v} P))):=by
 rw [af6 (ad5 h) (Nat.le_of_ble_eq_true rfl),ak0];rfl
theorem rdTP1 {s:List O}{c:PV}{P:PX}(h:s[0]? =some (.box (boxP c P)))(K1:V->R)(K2:V->List O->R):rdT s 0 1 K1 K2=K2 c.l (s.set 0 (.box ((boxP c P).set 1 (c.l,false)))):=by unfold rdT;rw [h];rfl
theorem wrTP1 {s:List O}{c:PV}{P:PX}(h:s[0]? =some (.box (boxP c P)))(v:V)(K:List O->R):wrO (s.set 0 (.box ((boxP c P).set 1 (c.l,false)))) 0 1 [(v,true)] K=K (s.set 0 (.box (boxP {c with l:=v} P))):=by
 rw [af6 (ad5 h) (Nat.le_of_ble_eq_true rfl),ak0];rfl
theorem ask_stopped {s:List O}{c:PV}{P:PX}(h:s[0]? =some (.box (boxP c P)))(hp:P.stp=true)(k:Int)(n:By):RZ.R ad1 [vO 0 0,vI k,vS n] s=some (.ret [vI 0] s):=by
 apply ak5.b_of
 unfold ak5.b
 simp only [Nat.reduceAdd]
 rw [aR0 h,aB_v,hp]
 rfl
theorem ask_go {s:List O}{c:PV}{P:PX}(h:s[0]? =some (.box (boxP c P)))(hc:CP c P)(hp:P.stp=false)(k:Int)(n:By):∃v,isL 3 (ordV P.num (P.ords++[(k,n)])) v/\∀o,(bif P.ans.isEmpty then some (.ret [vI 0] (s.set 0 (.box (boxP {c with o:=v} {P with stp:=true})))) else ak5.J0 RZ 0 0 (s.set 0 (.box (boxP {c with o:=v} P))))=some o->RZ.R ad1 [vO 0 0,vI k,vS n] s=some o:=by
 obtain ⟨no,ao,eo⟩:=hc.o.aL
 obtain ⟨na,aa,ea⟩:=hc.a.aL
 have hbo:=hc.bo
 refine ⟨.list (no||!([vA [vI P.num,vI k,vS n]]:List V).isEmpty) 3 (ordV P.num P.ords++[vA [vI P.num,vI k,vS n]]),by rw [←ordV_app];exact aG8,fun o ho=>?_⟩
 have hb1:(s.set 0 (.box (boxP {c with o:=.list (no||!([vA [vI P.num,vI k,vS n]]:List V).isEmpty) 3 (ordV P.num P.ords++[vA [vI P.num,vI k,vS n]])} P)))[0]? =some (.box (boxP {c with o:=.list (no||!([vA [vI P.num,vI k,vS n]]:List V).isEmpty) 3 (ordV P.num P.ords++[vA [vI P.num,vI k,vS n]])} P)):=ad5 h
 have hbf:(s.set 0 (.box ((boxP c P).set 0 (c.o,false))))[0]? =some (.box ((boxP c P).set 0 (c.o,false))):=ad5 h
 have hr8:∀K:V->R,rd1 (s.set 0 (.box ((boxP c P).set 0 (c.o,false)))) 0 8 K=K (vI P.num):=fun K=>am4 (off:=8) (x:=(vI P.num,false)) hbf rfl K
 have ap:∀K:R,apK (ordV P.num P.ords) [vA [vI P.num,vI k,vS n]] 32 K=K:=fun K=>by
  unfold apK
  rw [ck_t (by rw [show (ordV P.num P.ords).length=P.ords.length from List.length_map _];simp only [List.length_cons,List.length_nil,Bool.and_eq_true,Nat.ble_eq];omega)]
 have hemp:((((af5 P.ans).length:Nat):Int)==z0)=P.ans.isEmpty:=by
  rw [show (af5 P.ans).length=P.ans.length from List.length_map _]
  cases P.ans with
  | nil=>rfl
  | cons a r=>rw [beq_eq_false_iff_ne.2 (by show (((a::r).length:Nat):Int)≠0;simp only [List.length_cons];omega)];rfl
 apply ak5.b_of
 unfold ak5.b
 simp only [Nat.reduceAdd]
 rw [aR0 h,aB_v,hp,cond_false]
 simp only [rdTP0 h,eo,rdP8 h,hr8,aI_v,ap,wrTP0 h,rdP9 hb1,ea,hemp,wrP10 hb1,ak0,as4,aw0]
 exact ho
end
def ar0 (s:List O)(num:Int)(L:List By)(o:Int×By):Prop:=∃c P,s[0]? =some (.box (boxP c P))/\P.stp=true/\P.over=false/\P.lines=L/\P.num=num/\(∃pre,P.ords=pre++[o])/\isL 3 (ordV num P.ords) c.o/\isL 1 (aa1 L) c.l/\isL 1 (aa1 P.dbt) c.d/\P.ords.length<=1001/\P.dbt.length<=1001
theorem aY8 {s:List O}{c:PV}{P:PX}(h:s[0]? =some (.box (boxP c P)))(hc:CP c P)(hp:P.stp=false)(ho:P.over=false)(hpa:P.ans=[])(k:Int)(n:By):∃s',RZ.R ad1 [vO 0 0,vI k,vS n] s=some (.ret [vI 0] s')/\ar0 s' P.num P.lines (k,n)/\s'.length=s.length/\∀j,j≠0->s'[j]? =s[j]? :=by
 obtain ⟨v,hv,e⟩:=ask_go h hc hp k n
 have hbo:=hc.bo
 have hbd:=hc.bd
 refine ⟨_,e _ (by rw [hpa];rfl),⟨{c with o:=v},{P with stp:=true,ords:=P.ords++[(k,n)]},ad5 h,rfl,ho,rfl,rfl,⟨P.ords,rfl⟩,hv,hc.l,hc.d,by show (P.ords++[(k,n)]).length<=_;simp;omega,by show P.dbt.length<=_;omega⟩,by simp,fun j hj=>List.getElem?_set_ne fun e=>hj e.symm⟩
theorem aQ0 {s:List O}{c:PV}{P:PX}(h:s[0]? =some (.box (boxP c P)))(hc:CP c P)(hp:P.stp=false){a:Int}{r:List Int}(hpa:P.ans=a::r)(k:Int)(n:By):∃c',CP c' {P with ords:=P.ords++[(k,n)],ans:=r}/\RZ.R ad1 [vO 0 0,vI k,vS n] s=some (.ret [vI a] (s.set 0 (.box (boxP c' {P with ords:=P.ords++[(k,n)],ans:=r})))):=by
 obtain ⟨v,hv,e⟩:=ask_go h hc hp k n
 have hbo:=hc.bo
 have hbd:=hc.bd
 rw [hpa] at hbo
 obtain ⟨na,aa,ea⟩:=hc.a.aL
 have hb1:(s.set 0 (.box (boxP {c with o:=v} P)))[0]? =some (.box (boxP {c with o:=v} P)):=ad5 h
 rw [hpa] at aa ea
 refine ⟨{c with o:=v,a:=.list na 1 (af5 r),fa:=nilB (.list na 1 (af5 r))},⟨hv,hc.l,hc.d,isLn fun _=>aa (by unfold af5;simp),by show (P.ords++[(k,n)]).length+r.length<=_;simp at hbo ⊢;omega,by show P.dbt.length<=(P.ords++[(k,n)]).length;simp;omega⟩,e _ ?_⟩
 rw [show P.ans.isEmpty=false from by rw [hpa];rfl,cond_false]
 apply ak5.am9
 unfold ak5.J0b
 simp only [Nat.reduceAdd]
 rw [rdP9 hb1,ea]
 show idxK (vI a::af5 r) ((0:Nat):Int) _=_
 rw [aK6 (i:=0) (v:=vI a) rfl]
 simp only [V.cells,aC_v,aI_v,aN_v]
 rw [rdP9 hb1,ea,ck_t (by simp only [Bool.and_eq_true,decide_eq_true_iff];show (0:Int)<=1/\(1:Int)<=(((vI a::af5 r).length:Nat):Int)/\_;simp only [List.length_cons];omega)]
 rw [show ((af5 (a::r)).take ((((af5 (a::r)).length:Nat):Int)).toNat).drop (z1:Int).toNat=af5 r from by
  rw [show ((((af5 (a::r)).length:Nat):Int)).toNat=(af5 (a::r)).length from rfl,List.take_length];rfl]
 rw [wrP9 hb1,ak0]
 rfl
theorem ar0.ask {s:List O}{num:Int}{L:List By}{o:Int×By}(h:ar0 s num L o)(k:Int)(n:By):RZ.R ad1 [vO 0 0,vI k,vS n] s=some (.ret [vI 0] s):=by
 obtain ⟨c,P,h1,h2,_⟩:=h
 exact ask_stopped h1 h2 k n
theorem ar0.low {s s':List O}{num:Int}{L:List By}{o:Int×By}(h:ar0 s num L o)(h0:s'[0]? =s[0]?):ar0 s' num L o:=by
 obtain ⟨c,P,h1,h2⟩:=h
 exact ⟨c,P,by rw [h0];exact h1,h2⟩
end Go.Proofs.YtnpjififnhjbbaaDoor.E
set_option maxRecDepth 100000
namespace Go.Proofs.YtnpjififnhjbbaaDoor.E
open Go
def pes (l:List (By×Int)):List (V×V):=l.map fun e=>(vS e.1,vI e.2)
def aN2 (k:By):List (By×Int)->Option V
 | []=>none
 | (j,n)::r=>if k=j then some (vI n) else aN2 k r
theorem aW0 (k:By):∀l,(aN2 k l).getD (vI 0)=vI (getG k l)
 | []=>rfl
 | (j,n)::r=>by
  rw [show aN2 k ((j,n)::r)=if k=j then some (vI n) else aN2 k r from rfl,show getG k ((j,n)::r)=if k=j then n else getG k r from rfl]
  by_cases h:k=j
  ·rw [if_pos h,if_pos h];rfl
  ·rw [if_neg h,if_neg h];exact aW0 k r
theorem findV_g (k:By):∀l,aB1 (vS k) (pes l)=some (aN2 k l)
 | []=>rfl
 | (j,n)::r=>by
  show (some (k==j)).bind (fun b=>bif b then some (some (vI n)) else aB1 (vS k) (pes r))=_
  rw [byBeq,Option.bind_some,findV_g k r,show aN2 k ((j,n)::r)=if k=j then some (vI n) else aN2 k r from rfl]
  by_cases h:k=j
  ·rw [decide_eq_true h,if_pos h];rfl
  ·rw [decide_eq_false h,if_neg h];rfl
theorem putV_g (k:By)(m:Int):∀l,putV (vS k) (vI m) (pes l)=some (pes (putG k m l))
 | []=>rfl
 | (j,n)::r=>by
  show (some (k==j)).bind (fun b=>bif b then some ((vS k,vI m)::pes r) else (putV (vS k) (vI m) (pes r)).map ((vS j,vI n)::·))=_
  rw [byBeq,Option.bind_some,putV_g k m r,show putG k m ((j,n)::r)=if k=j then (j,m)::r else (j,n)::putG k m r from rfl]
  by_cases h:k=j
  ·rw [decide_eq_true h,if_pos h,h];rfl
  ·rw [decide_eq_false h,if_neg h];rfl
theorem az8 (k:By)(m:Int):∀l,getG k (putG k m l)=m
 | []=>by unfold putG getG;rw [if_pos rfl]
 | (j,n)::r=>by
  rw [show putG k m ((j,n)::r)=if k=j then (j,m)::r else (j,n)::putG k m r from rfl]
  by_cases h:k=j
  ·rw [if_pos h,show getG k ((j,m)::r)=if k=j then m else getG k r from rfl,if_pos h]
  ·rw [if_neg h,show getG k ((j,n)::putG k m r)=if k=j then n else getG k (putG k m r) from rfl,if_neg h];exact az8 k m r
theorem aF3 {k x:By}(m:Int)(hx:x≠k):∀l,getG x (putG k m l)=getG x l
 | []=>by unfold putG;rw [show getG x [(k,m)]=if x=k then m else getG x [] from rfl,if_neg hx]
 | (j,n)::r=>by
  rw [show putG k m ((j,n)::r)=if k=j then (j,m)::r else (j,n)::putG k m r from rfl]
  by_cases h:k=j
  ·rw [if_pos h,show getG x ((j,m)::r)=if x=j then m else getG x r from rfl,show getG x ((j,n)::r)=if x=j then n else getG x r from rfl,if_neg (by rw [←h];exact hx),if_neg (by rw [←h];exact hx)]
  ·rw [if_neg h,show getG x ((j,n)::putG k m r)=if x=j then n else getG x (putG k m r) from rfl,show getG x ((j,n)::r)=if x=j then n else getG x r from rfl,aF3 m hx r]
theorem by8 (k:By)(l:List (By×Int))(K:Option V->R):ar6 (vS k) (pes l) K=K (aN2 k l):=by unfold ar6;rw [findV_g]
theorem bu9 (k:By)(m:Int)(l:List (By×Int))(K:List (V×V)->R):putK (vS k) (vI m) (pes l) K=K (pes (putG k m l)):=by unfold putK;rw [putV_g]
theorem aK5 {s:List O}{i:Nat}{es:List (V×V)}{c:Nat}(h:s[i]? =some (.map es c))(K:List (V×V)->Nat->R):mapK s i K=K es c:=by unfold mapK;rw [h]
theorem bu2 {m:Bool}{l:List By}{x:By}(hl:l.length<9223372036854775808):∀(k i:Nat),i+k=l.length->av7.L0 RZ x m (aa1 l) l.length i=some (.ret [.bool (hasS x (l.drop i))] [])
 | 0,i,h=>by
  have hi:i=l.length:=by omega
  apply av7.ag4
  unfold av7.L0b
  rw [hi,ag2,cond_false,List.drop_length]
  rfl
 | k+1,i,h=>by
  have ih:=bu2 (m:=m) (x:=x) hl k (i+1) (by omega)
  obtain ⟨y,hy⟩:=getL (l:=l) (i:=i) (by omega)
  apply av7.ag4
  unfold av7.L0b
  rw [ah8 (by omega),am8 hy,hasS_cons]
  simp only [cond_true,aj3 hy,V.cells,aC_v,aS_v,aN_v,strB,w6_1 (show i<9223372036854775807 by omega),ih]
  by_cases e:y=x
  ·rw [decide_eq_true e,decide_eq_true e.symm];rfl
  ·rw [decide_eq_false e,decide_eq_false (fun h=>e h.symm)];rfl
theorem rhas_is {m:Bool}{l:List By}{x:By}(hl:l.length<9223372036854775808):RZ.R az3 [vL m 1 (aa1 l),vS x] []=some (.ret [.bool (hasS x l)] []):=by
 apply av7.b_of
 unfold av7.b
 rw [ab9]
 exact bu2 hl l.length 0 (by omega)
def selF (k a:Int):Bool:=decide (k≠6/\2<=a/\a<=4)
def mixF (k a:Int):Bool:=decide (k≠6/\(a=2∨a=3))
def hazF (k a:Int):Bool:=decide (k≠6/\a=4)
theorem all_L6 {k:Int}{g:Nat}{gl:List (By×Int)}{m7:Bool}{names:List By}(hl:names.length<=1000):∀(j i:Nat),i+j=names.length->∀(s:List O) (c:PV) (P:PX) (out:List By) (m5:Bool),s[0]? =some (.box (boxP c P))->(∃kk,s[g]? =some (.map (pes gl) kk))->(aa1 out≠[]->m5=true)->out.length<=i ->
  ∃s' w,aa0.L6 RZ 0 0 k g m5 (aa1 out) m7 (aa1 names) names.length i s=some (.ret [w] s')/\isL 1 (aa1 (out++(names.drop i).filter fun x=>selF k (getG x gl))) w/\s'[0]? =some (.box (boxP c {P with mix:=P.mix||(names.drop i).any (fun x=>mixF k (getG x gl)),haz:=P.haz||(names.drop i).any (fun x=>hazF k (getG x gl))}))/\s.length=s'.length
 | 0,i,h,s,c,P,out,m5,hb,hg,hm,ho=>by
  have hi:i=names.length:=by omega
  refine ⟨s,vL m5 1 (aa1 out),?_,?_,?_,rfl⟩
  ·apply aa0.L6_of
   unfold aa0.L6b
   rw [hi,ag2,cond_false]
   rfl
  ·rw [hi,List.drop_length];simpa using isLn hm
  ·rw [hi,List.drop_length];simpa using hb
 | j+1,i,h,s,c,P,out,m5,hb,hg,hm,ho=>by
  obtain ⟨x,hx⟩:=getL (l:=names) (i:=i) (by omega)
  obtain ⟨kk,hgk⟩:=hg
  have hg0:g≠0:=by rintro rfl;rw [hb] at hgk;cases hgk
  generalize ha:getG x gl=a
  let P1:PX:={P with mix:=P.mix||mixF k a}
  let P2:PX:={P with mix:=P.mix||mixF k a,haz:=P.haz||hazF k a}
  have hb1:(s.set 0 (.box (boxP c P1)))[0]? =some (.box (boxP c P1)):=ad5 hb
  have hb2:(s.set 0 (.box (boxP c P2)))[0]? =some (.box (boxP c P2)):=ad5 hb
  have key:∀(out':List By) (m5':Bool),(aa1 out'≠[]->m5'=true)->out'.length<=i+1->out'=out++(if selF k a=true then [x] else [])->∃s' w,aa0.J8 RZ 0 0 k g m5' (aa1 out') a m7 (aa1 names) names.length i s=some (.ret [w] s')/\isL 1 (aa1 (out++(names.drop i).filter fun x=>selF k (getG x gl))) w/\s'[0]? =some (.box (boxP c {P with mix:=P.mix||(names.drop i).any (fun x=>mixF k (getG x gl)),haz:=P.haz||(names.drop i).any (fun x=>hazF k (getG x gl))}))/\s.length=s'.length:=by
   intro out' m5' hm' hl' he
   obtain ⟨s',w,q1,q2,q3,q4⟩:=all_L6 (k:=k) (g:=g) (gl:=gl) (m7:=m7) hl j (i+1) (by omega) (s.set 0 (.box (boxP c P2))) c P2 out' m5' hb2 ⟨kk,by rw [List.getElem?_set_ne (fun e=>hg0 e.symm)];exact hgk⟩ hm' hl'
   refine ⟨s',w,?_,?_,?_,by rw [←q4];simp⟩
   ·have J10:aa0.J10 RZ 0 0 k g m5' (aa1 out') m7 (aa1 names) names.length i (s.set 0 (.box (boxP c P2)))=some (.ret [w] s'):=by
     apply aa0.bd7
     unfold aa0.J10b
     rw [w6_1 (by omega)];exact q1
    have J9:aa0.J9 RZ 0 0 k g m5' (aa1 out') a m7 (aa1 names) names.length i (s.set 0 (.box (boxP c P1)))=some (.ret [w] s'):=by
     apply aa0.J9_of
     unfold aa0.J9b
     simp only [Nat.reduceAdd]
     rw [rdP4 hb1,aB_v]
     have wr:∀(b:Bool) (K:List O->R),b=(P.haz||hazF k a)->wrO (s.set 0 (.box (boxP c P1))) 0 4 [(vB b,false)] K=K (s.set 0 (.box (boxP c P2))):=fun b K e=>by rw [wrP4 hb1,ak0,e]
     show (bif P.haz then _ else _)=_
     cases hz:P.haz with
     | true=>rw [cond_true,wr true _ (by rw [hz];rfl)];exact J10
     | false=>
      rw [cond_false]
      by_cases h6:k=6
      ·rw [show (k !=(6:Int))=false from by rw [h6];rfl,cond_false,wr false _ (by rw [hz,show hazF k a=false from decide_eq_false fun h=>h.1 h6];rfl)];exact J10
      ·rw [show (k !=(6:Int))=true from bne_iff_ne.2 h6,cond_true,wr (a==(4:Int)) _ (by rw [hz,Bool.false_or];unfold hazF;rw [Bool.eq_iff_iff,beq_iff_eq,decide_eq_true_iff];exact ⟨fun h=>⟨h6,h⟩,fun h=>h.2⟩)];exact J10
    apply aa0.J8_of
    unfold aa0.J8b
    simp only [Nat.reduceAdd]
    rw [rdP3 hb,aB_v]
    have wr:∀(b:Bool) (K:List O->R),b=(P.mix||mixF k a)->wrO s 0 3 [(vB b,false)] K=K (s.set 0 (.box (boxP c P1))):=fun b K e=>by rw [wrP3 hb,e]
    cases hz:P.mix with
    | true=>rw [cond_true,wr true _ (by rw [hz];rfl)];exact J9
    | false=>
     rw [cond_false]
     by_cases h6:k=6
     ·rw [show (k !=(6:Int))=false from by rw [h6];rfl,cond_false,wr false _ (by rw [hz,show mixF k a=false from decide_eq_false fun h=>h.1 h6];rfl)];exact J9
     ·rw [show (k !=(6:Int))=true from bne_iff_ne.2 h6,cond_true]
      by_cases h2:a=2
      ·rw [beq_iff_eq.2 h2,cond_true,wr true _ (by rw [hz,show mixF k a=true from decide_eq_true ⟨h6,.inl h2⟩];rfl)];exact J9
      ·rw [beq_eq_false_iff_ne.2 h2,cond_false,wr (a==(3:Int)) _ (by rw [hz,Bool.false_or];unfold mixF;rw [Bool.eq_iff_iff,beq_iff_eq,decide_eq_true_iff];exact ⟨fun h=>⟨h6,.inr h⟩,fun h=>h.2.resolve_left h2⟩)];exact J9
   ·rw [am8 hx,List.filter_cons,ha]
    rw [he] at q2
    cases hs:selF k a with
    | true=>rw [hs] at q2;simpa using q2
    | false=>rw [hs] at q2;simpa using q2
   ·rw [q3,am8 hx]
    simp only [List.any_cons,ha,P2,Bool.or_assoc]
  have J7:∀o,aa0.J7 RZ 0 0 k g m5 (aa1 out) x a m7 (aa1 names) names.length i (selF k a) s=some o->aa0.L6 RZ 0 0 k g m5 (aa1 out) m7 (aa1 names) names.length i s=some o:=by
   intro o ho
   apply aa0.L6_of
   unfold aa0.L6b
   rw [ah8 (by omega)]
   simp only [cond_true,aj3 hx,V.cells,aC_v,aS_v,aN_v,aK5 hgk,by8,aW0,aI_v,ha]
   unfold selF at ho
   by_cases h6:k=6
   ·rw [show (k !=(6:Int))=false from by rw [h6];rfl,cond_false]
    rw [decide_eq_false (fun h=>h.1 h6)] at ho;exact ho
   ·rw [show (k !=(6:Int))=true from bne_iff_ne.2 h6,cond_true]
    by_cases h2:2<=a
    ·rw [show decide (a>=2)=true from decide_eq_true h2,cond_true,aH1 (show a<=4↔(k≠6/\2<=a/\a<=4) from ⟨fun h=>⟨h6,h2,h⟩,fun h=>h.2.2⟩)];exact ho
    ·rw [show decide (a>=2)=false from decide_eq_false h2,cond_false]
     rw [decide_eq_false (fun h=>h2 h.2.1)] at ho;exact ho
  cases hs:selF k a with
  | true=>
   obtain ⟨s',w,q1,q2,q3,q4⟩:=key (out++[x]) (m5||!([vS x]:List V).isEmpty) (fun _=>by cases m5<;>rfl) (by simp;omega) (by rw [hs];rfl)
   refine ⟨s',w,J7 _ ?_,q2,q3,q4⟩
   rw [hs]
   apply aa0.bC0
   unfold aa0.J7b
   rw [cond_true]
   unfold apK
   rw [ck_t (by rw [ab9];simp only [List.length_cons,List.length_nil,Bool.and_eq_true,Nat.ble_eq];omega),ak9]
   exact q1
  | false=>
   obtain ⟨s',w,q1,q2,q3,q4⟩:=key out m5 hm (by omega) (by rw [hs];simp)
   refine ⟨s',w,J7 _ ?_,q2,q3,q4⟩
   rw [hs]
   exact aa0.bC0 _ _ _ _ _ _ _ _ _ _ _ _ _ _ q1
end Go.Proofs.YtnpjififnhjbbaaDoor.E
