/- It is proved what the evaluation of a transaction's prepared, ended and told, of the loop that settles, and of what is due comes to, in the plain model. No condition beyond the lemmas' own. -/
import Derived.Test.YtnpjififnhjbbaaDoorP1
set_option maxRecDepth 100000
namespace Go.Proofs.YtnpjififnhjbbaaDoor.E
open Go
theorem be1 (s:List O)(o o':O):(s++[o]).set s.length o'=s++[o']:=by
 rw [List.set_append]
 simp
theorem aG4 (s:List O)(es:List (V×V))(c:Nat)(K:List (V×V)->Nat->R):mapK (s++[O.map es c]) s.length K=K es c:=by
 unfold mapK
 rw [aT1]
theorem end_L0 {mm:Bool}:∀(k i:Nat) (s:List O) (c:CV) (T:TX),s[T.b]? =some (.box (boxC c T))->CR c T->i+k=T.res.length->T.res.length<=1000->T.fgt.length<=1000000->T.que.length+k<=1000000 ->
  ∃c',CR c' {T with que:=T.que++((T.res.drop i).filter fun s=>hasS s T.fgt).map (fun s=>(6,s)),fgt:=[]}/\c'.c11=c.c11/\aa7.L0 RZ T.b 0 mm (aa1 T.res) T.res.length i s=some (.ret [vB true] (s.set T.b (.box (boxC c' {T with que:=T.que++((T.res.drop i).filter fun s=>hasS s T.fgt).map (fun s=>(6,s)),fgt:=[]}))))
 | 0,i,s,c,T,hb,hc,hi,_,_,_=>by
  obtain rfl:i=T.res.length:=by omega
  rw [List.drop_length]
  refine ⟨{c with c12:=.list false 0 []},⟨hc.h0,hc.h1,hc.h8,by simpa using hc.h9,hc.h10,aq7,hc.n0⟩,rfl,?_⟩
  apply aa7.ag4
  unfold aa7.L0b
  simp only [Nat.reduceAdd]
  rw [ag2,cond_false,wrC12 hb,retRv]
  simp only [List.filter_nil,List.map_nil,List.append_nil]
  rfl
 | k+1,i,s,c,T,h,hc,hi,hl,hy,hq=>by
  obtain ⟨x,hx⟩:=getL (l:=T.res) (i:=i) (by omega)
  obtain ⟨n12,a12,e12⟩:=hc.h12.aL
  have J1:∀(s':List O) (o:Out),aa7.L0 RZ T.b 0 mm (aa1 T.res) T.res.length ((i+1:Nat):Int) s'=some o->aa7.J1 RZ T.b 0 mm (aa1 T.res) T.res.length i s'=some o:=by
   intro s' o ho
   apply aa7.ak6
   unfold aa7.J1b
   rw [w6_1 (by omega)];exact ho
  have start:∀o,(bif hasS x T.fgt then rdT s T.b 9 (fun v18=>aL 2 v18 fun m19 e20=>apK e20 [(vA [(vI 6),(vS x)])] 24 (ck (!m19) (wrO s T.b 9 [((vL true 2 (e20++[(vA [(vI 6),(vS x)])])),true)] fun s21=>aa7.J1 RZ T.b 0 mm (aa1 T.res) T.res.length i s21))) (fun v18 s22=>aL 2 v18 fun m23 e24=>apK e24 [(vA [(vI 6),(vS x)])] 24 (wrO s22 T.b 9 [((vL (m23||!([(vA [(vI 6),(vS x)])]:List V).isEmpty) 2 (e24++[(vA [(vI 6),(vS x)])])),true)] fun s25=>aa7.J1 RZ T.b 0 mm (aa1 T.res) T.res.length i s25)) else aa7.J1 RZ T.b 0 mm (aa1 T.res) T.res.length i s)=some o->aa7.L0 RZ T.b 0 mm (aa1 T.res) T.res.length i s=some o:=by
   intro o ho
   apply aa7.ag4
   unfold aa7.L0b
   rw [ah8 (by omega)]
   simp only [cond_true,aj3 hx,V.cells,aC_v,aS_v,aN_v,Nat.reduceAdd,rdC12 h,e12]
   rw [cS_v (at4 (SLof (isLn a12)) (by omega)),aB_v]
   exact ho
  rw [am8 hx,List.filter_cons]
  cases hb:hasS x T.fgt with
  | false=>
   obtain ⟨c',g1,g2,g3⟩:=end_L0 (mm:=mm) k (i+1) s c T h hc (by omega) hl hy (by omega)
   refine ⟨c',g1,g2,start _ ?_⟩
   rw [hb]
   exact J1 _ _ g3
  | true=>
   obtain ⟨v,hv,e9⟩:=appC9 h hc (6,x) (by omega)
   obtain ⟨c',g1,g2,g3⟩:=end_L0 (mm:=mm) k (i+1) (s.set T.b (.box (boxC {c with c9:=v} {T with que:=T.que++[(6,x)]}))) {c with c9:=v} {T with que:=T.que++[(6,x)]} (ad5 h) ⟨hc.h0,hc.h1,hc.h8,hv,hc.h10,hc.h12,hc.n0⟩ (by simpa using (show i+1+k=T.res.length by omega)) hl hy (by simp;omega)
   simp only [List.append_assoc,ak0] at g1 g3
   refine ⟨c',g1,g2,start _ ?_⟩
   rw [hb,cond_true]
   exact (e9 _ _).trans (J1 _ _ g3)
theorem end_L4 {mm:Bool}{s:List O}{c:CV}{T:TX}(hb:s[T.b]? =some (.box (boxC c T)))(hc:CR c T)(hl:T.wat.length<=400000)(hq:T.que.length<=400000):∃c',CR c' {T with que:=T.que++T.wat.map fun x=>(7,x)}/\c'.c11=c.c11/\aa7.L4 RZ T.b 0 mm (aa1 T.wat) T.wat.length z0 s=some (.ret [vB true] (s.set T.b (.box (boxC c' {T with que:=T.que++T.wat.map fun x=>(7,x)})))):=by
 obtain ⟨c',h1,h2,h3⟩:=aP3 T.b T.wat 7 (fun i s=>aa7.L4 RZ T.b 0 mm (aa1 T.wat) T.wat.length i s) (fun s=>some (.ret [vB true] s)) (fun i x s s1 o hx ha ho=>by
   have hi:=(List.getElem?_eq_some_iff.1 hx).1
   have J6:aa7.J5 RZ T.b 0 mm (aa1 T.wat) T.wat.length i s1=some o:=by
    apply aa7.aY9
    unfold aa7.J5b
    rw [w6_1 (by omega)];exact ho
   apply aa7.L4_of
   unfold aa7.L4b
   rw [ah8 hi]
   simp only [cond_true,aj3 hx,V.cells,aC_v,aS_v,aN_v,Nat.reduceAdd]
   exact (ha _ _).trans J6) (fun s o ho=>by
   apply aa7.L4_of
   unfold aa7.L4b
   rw [ag2];exact aa7.br7 _ ho) T.wat.length 0 s c T (by omega) rfl hb hc (by omega)
 exact ⟨c',h1,h2,h3 _ rfl⟩
theorem end_J3 {m:Nat}{M:MV}{s:List O}{lg:List By}{gv:V}{c:CV}{r:Nat}{T:TX}(h:PT s m M lg gv c r T)(hl:T.wat.length<=400000)(hq:T.que.length<=400000):∃s',aa7.J3 RZ T.b 0 s=some (.ret [vB true] s')/\Step s m M r s' lg {T with que:=T.que++T.wat.map fun x=>(7,x)}:=by
 obtain ⟨n2,a2,e2⟩:=h.tx.cr.h1.aL
 obtain ⟨c3,g1,g2,g3⟩:=end_L4 (mm:=n2) h.box h.tx.cr hl hq
 refine ⟨_,?_,h.putS g1 rfl rfl rfl rfl g2⟩
 apply aa7.aB4
 unfold aa7.J3b
 simp only [Nat.reduceAdd]
 rw [rdC3 h.box,aI_v,show ((0:Int)==z0)=true from rfl,cond_true,rdC1 h.box,e2,ab9]
 exact g3
theorem end_J2 {m:Nat}{M:MV}{s:List O}{lg:List By}{gv:V}{c:CV}{r:Nat}{T:TX}{b:Bool}(h:PT s m M lg gv c r T)(hl:T.wat.length<=400000)(hq:T.que.length<=400000)(hnum:0<=T.num/\T.num<100)(hlg:lg.length<=100000):∃s',aa7.J2 RZ m 0 T.b 0 b s=some (.ret [vB true] s')/\Step s m M r s' (lg++(bif b then [endB T.num] else [])) {T with que:=T.que++T.wat.map fun x=>(7,x)}:=by
 cases b with
 | false=>
  obtain ⟨s',g1,g2⟩:=end_J3 h hl hq
  refine ⟨s',aa7.ar1 _ _ _ _ _ _ g1,?_⟩
  rw [cond_false,List.append_nil];exact g2
 | true=>
  obtain ⟨n4,a4,e4⟩:=h.lg.aL
  have hg:isL 1 (aa1 (lg++[endB T.num])) (.list (n4||!([vS (endB T.num)]:List V).isEmpty) 1 (aa1 lg++[vS (endB T.num)])):=by rw [←ak9];exact aG8
  have h2:=h.log hg
  obtain ⟨s',g1,g2⟩:=end_J3 h2 hl hq
  have hs1:=aR7 hnum
  have mb26:(s.set m (.box (boxM M gv false)))[m]? =some (.box (boxM M gv false)):=ad5 h.mb
  have bb26:(s.set m (.box (boxM M gv false)))[T.b]? =some (.box (boxC c T)):=by rw [List.getElem?_set_ne h.nb];exact h.box
  have ap:∀K:R,apK (aa1 lg) [vS (endB T.num)] 16 K=K:=fun K=>by
   unfold apK
   rw [ck_t (by rw [ab9];simp only [List.length_cons,List.length_nil,Bool.and_eq_true,Nat.ble_eq];omega)]
  have hc1:∀x:R,ck (Nat.ble ((⟨#[101,110,100,32]⟩:By).size+(aG7 T.num).size) 9223372036854775807) x=x:=bg5 (by rw [show (⟨#[101,110,100,32]⟩:By).size=4 from rfl];omega)
  have hcm:(⟨#[101,110,100,32]⟩:By)++aG7 T.num=endB T.num:=rfl
  refine ⟨s',?_,Step.pre (Fr.set _ _ _ (by simp)) (.inl rfl) g2⟩
  apply aa7.ar1
  unfold aa7.J2b
  simp only [Nat.reduceAdd,cond_true]
  simp only [rdTM4 h.mb,e4,rdC2 h.box,rdC2 bb26,aI_v,bh8 hnum,cP_S,aS_v,hc1,hcm,ap,wrM4 mb26,ak0,as4,aw0]
  exact g1
theorem ended_is {m:Nat}{M:MV}{s:List O}{lg:List By}{gv:V}{c:CV}{r n:Nat}{T:TX}(h:PT s m M lg gv c r T)(hB:BT n T)(hn:n<=20000)(hlg:lg.length<=100000):∃s',RZ.R aF2 [vO m 0,vO T.b 0] s=some (.ret [vB true] s')/\Step s m M r s' (lg++endL T) (endT T):=by
 have hq:=hB.que
 have hr:=hB.res
 have hw:=hB.wat
 have hf:=hB.fgt
 obtain ⟨n12,a12,e12⟩:=h.tx.cr.h12.aL
 cases hfg:T.fgt with
 | cons x l=>
  obtain ⟨n0,a0,e0⟩:=h.tx.cr.h0.aL
  obtain ⟨c',g1,g2,g3⟩:=end_L0 (mm:=n0) T.res.length 0 s c T h.box h.tx.cr (by omega) (by omega) (by omega) (by omega)
  have e1:endL T=[]:=by unfold endL;rw [hfg]
  have e2:endT T= {T with que:=T.que++((T.res.drop 0).filter fun s=>hasS s T.fgt).map (fun s=>(6,s)),fgt:=[]}:=by unfold endT;rw [hfg];rfl
  refine ⟨_,?_,by rw [e1,List.append_nil,e2];exact h.putS g1 rfl rfl rfl rfl g2⟩
  apply aa7.b_of
  unfold aa7.b
  simp only [Nat.reduceAdd]
  rw [rdC12 h.box,e12,bc4 (by rw [ab9,hfg];simp),rdC0 h.box,e0,ab9]
  exact g3
 | nil=>
  have h13:=h.put (T':={T with com:=T.st==4}) (c':=c) ⟨h.tx.cr.h0,h.tx.cr.h1,h.tx.cr.h8,h.tx.cr.h9,h.tx.cr.h10,h.tx.cr.h12,h.tx.cr.n0⟩
  have h14:=h13.add [O.map [(vB true,vI 6),(vB false,vI 7)] (if ([(vB true,vI 6),(vB false,vI 7)]:List (V×V)).length=([(vB true,vI 6)]:List (V×V)).length then (if ([(vB true,vI 6)]:List (V×V)).length=([]:List (V×V)).length then 0 else 0+1) else (if ([(vB true,vI 6)]:List (V×V)).length=([]:List (V×V)).length then 0 else 0+1)+1)]
  have h15:=h14.put (T':={T with com:=T.st==4,st:=if T.st=4 then 6 else 7}) (c':=c) ⟨h.tx.cr.h0,h.tx.cr.h1,h.tx.cr.h8,h.tx.cr.h9,h.tx.cr.h10,h.tx.cr.h12,h.tx.cr.n0⟩
  obtain ⟨n8,a8,e8⟩:=h.tx.cr.h8.aL
  obtain ⟨s',g1,g2⟩:=end_J2 (b:=T.lgd&&(((aa1 T.dbt).length:Int)==z0)) h15 (by show T.wat.length<=_;omega) (by show T.que.length<=_;omega) hB.num hlg
  have e1:endL T=bif T.lgd&&(((aa1 T.dbt).length:Int)==z0) then [endB T.num] else []:=by
   unfold endL
   rw [hfg,ab9]
   cases T.lgd with
   | false=>rfl
   | true=>
    cases T.dbt with
    | nil=>rfl
    | cons y l=>
     rw [if_neg (by simp)]
     rw [show ((((y::l).length:Nat):Int)==z0)=false from by rw [beq_eq_false_iff_ne];show (((y::l).length:Nat):Int)≠0;simp only [List.length_cons];omega]
     rfl
  have e2:endT T= {T with com:=T.st==4,st:=if T.st=4 then 6 else 7,que:=T.que++T.wat.map fun x=>(7,x)}:=by unfold endT;rw [hfg]
  have hfind:∀(b:Bool) (K:Option V->R),ar6 (vB b) [(vB true,vI 6),(vB false,vI 7)] K=K (some (vI (bif b then 6 else 7))):=by intro b K;cases b<;>rfl
  have hst:(bif T.st==(4:Int) then (6:Int) else 7)=if T.st=4 then 6 else 7:=by
   by_cases h4:T.st=4
   ·rw [if_pos h4,h4];rfl
   ·rw [if_neg h4,beq_eq_false_iff_ne.2 h4];rfl
  refine ⟨s',?_,by rw [e1,e2];exact Step.pre (((Fr.set s _ _ (by simp)).trans (Fr.add _ _ _)).trans (Fr.set _ _ _ (by simp))) (.inl rfl) g2⟩
  apply aa7.b_of
  unfold aa7.b
  simp only [Nat.reduceAdd]
  rw [rdC12 h.box,e12,bz8 (by rw [ab9,hfg];rfl),rdC4 h.box,aI_v,wrC5 h.box]
  simp only [aG4,be1]
  rw [show ∀K,putK (vB true) (vI 6) [] K=K [(vB true,vI 6)] from fun K=>rfl]
  rw [show ∀K,putK (vB false) (vI 7) [(vB true,vI 6)] K=K [(vB true,vI 6),(vB false,vI 7)] from fun K=>rfl]
  simp only [aG4,be1,rdC5 h14.box,aB_v,hfind,Option.getD_some,aI_v,hst]
  rw [wrC4 h14.box,rdC14 h15.box,aB_v]
  rcases Bool.eq_false_or_eq_true T.lgd with hlgd | hlgd
  ·rw [bc4 hlgd,rdC8 h15.box,e8]
   rw [show (T.lgd&&(((aa1 T.dbt).length:Int)==z0))=(((aa1 T.dbt).length:Int)==z0) from by rw [hlgd];rfl] at g1
   exact g1
  ·rw [bz8 hlgd]
   rw [show (T.lgd&&(((aa1 T.dbt).length:Int)==z0))=false from by rw [hlgd];rfl] at g1
   exact g1
end Go.Proofs.YtnpjififnhjbbaaDoor.E
set_option maxRecDepth 100000
namespace Go.Proofs.YtnpjififnhjbbaaDoor.E
open Go
abbrev kV (k:Int×By):V:=vA [vI k.1,vS k.2]
theorem byBeq (a b:By):(a==b)=decide (a=b):=by
 rw [Bool.eq_iff_iff,decide_eq_true_iff]
 constructor
 ·intro h
  cases a;cases b
  congr
  exact eq_of_beq h
 ·rintro rfl
  cases a with | mk d=>exact beq_self_eq_true d
theorem bx9 (k j:Int×By):az1 (kV k) (kV j)=some (decide (k=j)):=by
 show (some (k.1==j.1)).bind (fun p=>((some (k.2==j.2)).bind fun p=>(some true).map fun q=>p&&q).map fun q=>p&&q)=_
 simp only [Option.bind_some,Option.map_some,Bool.and_true]
 congr 1
 rw [byBeq,Bool.eq_iff_iff,Bool.and_eq_true,beq_iff_eq,decide_eq_true_iff,decide_eq_true_iff,Prod.ext_iff]
def aS4 (k:Int×By):List ((Int×By)×Int)->Option V
 | []=>none
 | (j,n)::r=>if k=j then some (vI n) else aS4 k r
def posQ (k:Int×By):List ((Int×By)×Int)->Nat
 | []=>0
 | (j,_)::r=>if k=j then 0 else posQ k r+1
theorem by5 (k:Int×By):∀l,(aS4 k l).getD (vI 0)=vI (getQ k l)
 | []=>rfl
 | (j,n)::r=>by
  unfold aS4 getQ
  by_cases h:k=j
  ·rw [if_pos h,if_pos h];rfl
  ·rw [if_neg h,if_neg h];exact by5 k r
theorem findV_q (k:Int×By):∀l,aB1 (kV k) (qes l)=some (aS4 k l)
 | []=>rfl
 | (j,n)::r=>by
  show (az1 (kV k) (kV j)).bind (fun b=>bif b then some (some (vI n)) else aB1 (kV k) (qes r))=_
  rw [bx9,Option.bind_some,findV_q k r,show aS4 k ((j,n)::r)=if k=j then some (vI n) else aS4 k r from rfl]
  by_cases h:k=j
  ·rw [decide_eq_true h,if_pos h];rfl
  ·rw [decide_eq_false h,if_neg h];rfl
theorem putV_q (k:Int×By)(m:Int):∀l,putV (kV k) (vI m) (qes l)=some (qes (putQ k m l))
 | []=>rfl
 | (j,n)::r=>by
  show (az1 (kV k) (kV j)).bind (fun b=>bif b then some ((kV k,vI m)::qes r) else (putV (kV k) (vI m) (qes r)).map ((kV j,vI n)::·))=_
  rw [bx9,Option.bind_some,putV_q k m r,show putQ k m ((j,n)::r)=if k=j then (j,m)::r else (j,n)::putQ k m r from rfl]
  by_cases h:k=j
  ·rw [decide_eq_true h,if_pos h,h];rfl
  ·rw [decide_eq_false h,if_neg h];rfl
theorem posV_q (k:Int×By):∀l,posV (kV k) (qes l)=some (posQ k l)
 | []=>rfl
 | (j,n)::r=>by
  show (az1 (kV k) (kV j)).bind (fun b=>bif b then some 0 else (posV (kV k) (qes r)).map (·+1))=_
  rw [bx9,Option.bind_some,posV_q k r,show posQ k ((j,n)::r)=if k=j then 0 else posQ k r+1 from rfl]
  by_cases h:k=j
  ·rw [decide_eq_true h,if_pos h];rfl
  ·rw [decide_eq_false h,if_neg h];rfl
theorem at_q (k:Int×By)(m:Int):∀l,(qes (putQ k m l))[posQ k l]? =some (kV k,vI m)
 | []=>rfl
 | (j,n)::r=>by
  unfold posQ putQ
  by_cases h:k=j
  ·rw [if_pos h,if_pos h,h];rfl
  ·rw [if_neg h,if_neg h]
   show ((kV j,vI n)::qes (putQ k m r))[posQ k r+1]? =_
   rw [List.getElem?_cons_succ];exact at_q k m r
theorem set_q (k:Int×By)(m m':Int):∀l,(qes (putQ k m l)).set (posQ k l) (kV k,vI m')=qes (putQ k m' l)
 | []=>rfl
 | (j,n)::r=>by
  unfold posQ putQ
  by_cases h:k=j
  ·rw [if_pos h,if_pos h,if_pos h,h];rfl
  ·rw [if_neg h,if_neg h,if_neg h]
   show ((kV j,vI n)::qes (putQ k m r)).set (posQ k r+1) _=_
   rw [List.set_cons_succ,set_q k m m' r];rfl
theorem bf7 (k:Int×By)(m:Int):∀l,getQ k (putQ k m l)=m
 | []=>by unfold putQ getQ;rw [if_pos rfl]
 | (j,n)::r=>by
  rw [show putQ k m ((j,n)::r)=if k=j then (j,m)::r else (j,n)::putQ k m r from rfl]
  by_cases h:k=j
  ·rw [if_pos h,show getQ k ((j,m)::r)=if k=j then m else getQ k r from rfl,if_pos h]
  ·rw [if_neg h,show getQ k ((j,n)::putQ k m r)=if k=j then n else getQ k (putQ k m r) from rfl,if_neg h];exact bf7 k m r
theorem by4 {k:Int×By}{n:Nat}:∀{l:List ((Int×By)×Int)},(∀e∈l,0<=e.2/\e.2<=n)->0<=getQ k l/\getQ k l<=n
 | [],_=>by unfold getQ;omega
 | (j,m)::r,h=>by
  unfold getQ
  by_cases e:k=j
  ·rw [if_pos e];exact h (j,m) (List.mem_cons_self ..)
  ·rw [if_neg e];exact by4 fun x hx=>h x (List.mem_cons_of_mem _ hx)
theorem PT.quiet {s:List O}{m:Nat}{M:MV}{lg:List By}{gv:V}{c:CV}{r:Nat}{T:TX}(h:PT s m M lg gv c r T)(qt:List ((Int×By)×Int))(k:Nat):PT (s.set T.q (.map (qes qt) k)) m M lg gv c r {T with qt:=qt}:=by
 obtain ⟨k0,hk0⟩:=h.tx.qt
 have hnb:T.q≠T.b:=fun e=>h.tx.ne e.symm
 refine ⟨⟨?_,⟨h.tx.cr.h0,h.tx.cr.h1,h.tx.cr.h8,h.tx.cr.h9,h.tx.cr.h10,h.tx.cr.h12,h.tx.cr.n0⟩,?_,⟨k,ad5 hk0⟩⟩,?_,h.lg,h.nb,h.nr,by rw [List.length_set];exact h.rl⟩
 ·rw [List.getElem?_set_ne hnb];exact h.tx.box
 ·have hrr:=h.tx.rr
  show RR _ T.b r T.rest c.c11
  cases hx:T.rest with
  | none=>rw [hx] at hrr;exact hrr
  | some l=>
   rw [hx] at hrr
   refine ⟨?_,hrr.2⟩
   rcases hrr.2 with ⟨rfl,e⟩ | ⟨hr,c',e⟩
   ·rw [e];exact .inl aV8
   ·rw [e] at hrr ⊢
    rcases hrr.1 with (⟨nn,e2,_⟩ | ⟨e1,k',e2⟩) | ⟨id,c2,cs,e2,g1,g2⟩
    ·cases e2
    ·cases e2
    ·injection e2 with e3 e4 e5 e6 e7
     subst e3;subst e7
     refine .inr ⟨r,c',cs,rfl,?_,g2⟩
     rw [List.getElem?_set_ne]
     ·exact g1
     ·intro e;rw [e,g1] at hk0;cases hk0
 ·rw [List.getElem?_set_ne]
  ·exact h.mb
  ·intro e;rw [e,h.mb] at hk0;cases hk0
theorem sil_J1 {s:List O}{c:CV}{T:TX}{k:Int×By}(h:s[T.b]? =some (.box (boxC c T)))(hc:CR c T)(hq:T.que.length<=1000000):∃c',CR c' {T with que:=T.que++[k]}/\c'.c11=c.c11/\af3.J1 RZ T.b 0 k.1 k.2 s=some (.ret [] (s.set T.b (.box (boxC c' {T with que:=T.que++[k]})))):=by
 obtain ⟨v,hv,e9⟩:=appC9 h hc k hq
 refine ⟨{c with c9:=v},⟨hc.h0,hc.h1,hc.h8,hv,hc.h10,hc.h12,hc.n0⟩,rfl,?_⟩
 apply af3.ak6
 unfold af3.J1b
 simp only [Nat.reduceAdd]
 exact (e9 _ (fun s=>retR [] s)).trans rfl
theorem bt4 {m:Nat}{M:MV}{s:List O}{lg:List By}{gv:V}{c:CV}{r n:Nat}{T:TX}{k:Int×By}(h:PT s m M lg gv c r T)(hB:BT n T)(hn:n<=20000):∃s',RZ.R ak3 [vO T.b 0,kV k] s=some (.ret [] s')/\Step s m M r s' lg (silT k T):=by
 have hq:=hB.que
 have hd:=hB.dbt
 obtain ⟨kc,hk⟩:=h.tx.qt
 have hnb:T.q≠T.b:=fun e=>h.tx.ne e.symm
 have hle:=by4 (k:=k) hB.qt
 have hm0:∀K:List (V×V)->Nat->R,mapK s T.q K=K (qes T.qt) kc:=fun K=>by unfold mapK;rw [hk]
 have hm1:∀(e:List (V×V)) (c:Nat) (K:List (V×V)->Nat->R),mapK (s.set T.q (.map e c)) T.q K=K e c:=fun e c K=>by unfold mapK;rw [ad5 hk]
 have hf:∀(l:List ((Int×By)×Int)) (K:Option V->R),ar6 (vA [vI k.1,vS k.2]) (qes l) K=K (aS4 k l):=fun l K=>by unfold ar6;rw [show aB1 (vA [vI k.1,vS k.2]) (qes l)=_ from findV_q k l]
 have hp:∀(m:Int) (K:List (V×V)->R),putK (vA [vI k.1,vS k.2]) (vI m) (qes T.qt) K=K (qes (putQ k m T.qt)):=fun m K=>by unfold putK;rw [show putV (vA [vI k.1,vS k.2]) (vI m) (qes T.qt)=_ from putV_q k m T.qt]
 have hpos:∀K:Nat->R,posK (vA [vI k.1,vS k.2]) (qes T.qt) K=K (posQ k T.qt):=fun K=>by unfold posK;rw [show posV (vA [vI k.1,vS k.2]) (qes T.qt)=_ from posV_q k T.qt]
 have hck:∀x:R,ck (decide (0<=((posQ k T.qt:Nat):Int))) x=x:=fun x=>ck_t (by simp) x
 have hkv:∀(m:Int) (K:V×V->R),kvK (qes (putQ k m T.qt)) ((posQ k T.qt:Nat):Int) K=K (vA [vI k.1,vS k.2],vI m):=fun m K=>by
  unfold kvK
  rw [show (((posQ k T.qt:Nat):Int)).toNat=posQ k T.qt from rfl,at_q k m T.qt]
 have hset:∀m m':Int,(qes (putQ k m T.qt)).set (((posQ k T.qt:Nat):Int)).toNat (vA [vI k.1,vS k.2],vI m')=qes (putQ k m' T.qt):=fun m m'=>set_q k m m' T.qt
 have hw:w6 (getQ k T.qt+z1)=getQ k T.qt+1:=bs5 (by show -9223372036854775808<=getQ k T.qt+1/\getQ k T.qt+1<=9223372036854775807;omega)
 have hfo:∀l,(aS4 k l).getD (vI 0)=vI (getQ k l):=by5 k
 have hfp:∀m,getQ k (putQ k m T.qt)=m:=fun m=>bf7 k m T.qt
 have hbx:∀e c',(s.set T.q (.map e c'))[T.b]? =some (.box (boxC c T)):=fun e c'=>by rw [List.getElem?_set_ne hnb];exact h.box
 obtain ⟨n8,a8,e8⟩:=h.tx.cr.h8.aL
 have h1:=h.quiet (putQ k (getQ k T.qt+1) T.qt) (if (qes (putQ k (getQ k T.qt) T.qt)).length=(qes T.qt).length then kc else kc+1)
 have hf1:Fr s (s.set T.q (.map (qes (putQ k (getQ k T.qt+1) T.qt)) (if (qes (putQ k (getQ k T.qt) T.qt)).length=(qes T.qt).length then kc else kc+1))) [m,T.b,T.q,r]:=Fr.set _ _ _ (by simp)
 have run:∀o,(bif decide (getQ k T.qt+1>=20) then (cS (RZ.R ac2 [vL n8 1 (aa1 T.dbt),vS k.2] (s.set T.q (.map (qes (putQ k (getQ k T.qt+1) T.qt)) (if (qes (putQ k (getQ k T.qt) T.qt)).length=(qes T.qt).length then kc else kc+1))))
   (fun v27 s28=>aB v27 fun b29=>bif (!b29) then rdT s28 T.b 8 (fun v30=>aL 1 v30 fun m31 e32=>apK e32 [(vS k.2)] 16 (ck (!m31) (wrO s28 T.b 8 [((vL true 1 (e32++[(vS k.2)])),true)] fun s33=>af3.J0 RZ s33))) (fun v30 s34=>aL 1 v30 fun m35 e36=>apK e36 [(vS k.2)] 16 (wrO s34 T.b 8 [((vL (m35||!([(vS k.2)]:List V).isEmpty) 1 (e36++[(vS k.2)])),true)] fun s37=>af3.J0 RZ s37)) else af3.J0 RZ s28) (fun _ _=>none))
   else af3.J1 RZ T.b 0 k.1 k.2 (s.set T.q (.map (qes (putQ k (getQ k T.qt+1) T.qt)) (if (qes (putQ k (getQ k T.qt) T.qt)).length=(qes T.qt).length then kc else kc+1))))=some o->RZ.R ak3 [vO T.b 0,kV k] s=some o:=by
  intro o ho
  apply af3.b_of
  unfold af3.b
  simp only [Nat.reduceAdd]
  simp only [rdC13 h.box,aM2,hm0,hf,hfo,aI_v,hp,hpos,hm1,hck,hkv,hset,hw,ak0,rdC13 (hbx _ _),hfp,rdC8 (hbx _ _),e8,as4,aw0]
  exact ho
 have J0:∀s,af3.J0 RZ s=some (.ret [] s):=fun s=>af3.am9 s rfl
 by_cases h20:20<=getQ k T.qt+1
 ·have hd20:decide (getQ k T.qt+1>=20)=true:=decide_eq_true h20
  cases hh:hasS k.2 T.dbt with
  | true=>
   have e2:silT k T= {T with qt:=putQ k (getQ k T.qt+1) T.qt}:=by unfold silT;rw [if_pos h20,hh];rfl
   refine ⟨_,run _ ?_,by rw [e2];exact ⟨gv,c,r,h1,hf1,.inl rfl⟩⟩
   rw [hd20,cond_true,cS_v (at4 (SLof (isLn a8)) (by omega)),aB_v,hh]
   exact J0 _
  | false=>
   obtain ⟨v,hv,e9⟩:=appC8 h1.box h1.tx.cr k.2 (by show T.dbt.length<=_;omega)
   have e2:silT k T= {T with qt:=putQ k (getQ k T.qt+1) T.qt,dbt:=T.dbt++[k.2]}:=by unfold silT;rw [if_pos h20,hh];rfl
   have h2:=h1.putS (T':={T with qt:=putQ k (getQ k T.qt+1) T.qt,dbt:=T.dbt++[k.2]}) (c':={c with c8:=v}) ⟨h.tx.cr.h0,h.tx.cr.h1,hv,h.tx.cr.h9,h.tx.cr.h10,h.tx.cr.h12,h.tx.cr.n0⟩
   refine ⟨_,run _ ?_,by rw [e2];exact Step.pre hf1 (.inl rfl) h2⟩
   rw [hd20,cond_true,cS_v (at4 (SLof (isLn a8)) (by omega)),aB_v,hh,Bool.not_false,cond_true]
   exact (e9 _ _).trans (J0 _)
 ·have hd20:decide (getQ k T.qt+1>=20)=false:=decide_eq_false h20
  obtain ⟨c',g1,g2,g3⟩:=sil_J1 (k:=k) h1.box h1.tx.cr (by show T.que.length<=_;omega)
  have e2:silT k T= {T with qt:=putQ k (getQ k T.qt+1) T.qt,que:=T.que++[k]}:=by unfold silT;rw [if_neg h20]
  refine ⟨_,run _ ?_,by rw [e2];exact Step.pre hf1 (.inl rfl) (h1.putS g1 rfl rfl rfl rfl g2)⟩
  rw [hd20,cond_false]
  exact g3
end Go.Proofs.YtnpjififnhjbbaaDoor.E
set_option maxRecDepth 100000
namespace Go.Proofs.YtnpjififnhjbbaaDoor.E
open Go
theorem be3 {m:Nat}{M:MV}{s:List O}{lg:List By}{gv:V}{c:CV}{r:Nat}{T:TX}(h:PT s m M lg gv c r T)(hr:T.res.length<=1000000){n0:Bool}(a0:aa1 T.res≠[]->n0=true)(z0:nilS c.c0=some (!n0)):∃v s2 s3 c2 r2,RZ.R ac3 [vL n0 1 (aa1 T.res)] s=some (.ret [v] s2)/\v.good=true/\(∀K,wrO s2 T.b 11 [(v,nilB v)] K=K s3)/\PT s3 m M lg gv c2 r2 {T with rest:=ar5 T.res}/\Fr s s3 [m,T.b,T.q,r]/\(r2=r∨s.length<=r2):=by
 by_cases hres:T.res=[]
 ·obtain ⟨v',w1,w2,w3⟩:=(aK0 (v:=vL n0 1 (aa1 T.res)) (l:=T.res) (s:=s) (isLn a0) (by omega)).2 hres
  have hnv:nilS v'=some true:=by
   rw [w2]
   have:=h.tx.cr.n0
   rw [z0,hres] at this
   exact this
  refine ⟨v',s,_,{c with c11:=v',f11:=nilB v'},r,w3,w1.good,fun K=>bp2 h.box v' _ K,?_,Fr.set _ _ _ (by simp),.inl rfl⟩
  refine ⟨⟨ad5 h.box,⟨h.tx.cr.h0,h.tx.cr.h1,h.tx.cr.h8,h.tx.cr.h9,h.tx.cr.h10,h.tx.cr.h12,h.tx.cr.n0⟩,(by show RR _ T.b r (ar5 T.res) v';rw [hres];exact RR_none w1 hnv),?_⟩,by rw [List.getElem?_set_ne (fun e=>h.nb e.symm)];exact h.mb,h.lg,h.nb,h.nr,by rw [List.length_set];exact h.rl⟩
  obtain ⟨k,hk⟩:=h.tx.qt
  exact ⟨k,by rw [List.getElem?_set_ne h.tx.ne];exact hk⟩
 ·have hne:T.res≠[]:=hres
  have w:=(aK0 (v:=vL n0 1 (aa1 T.res)) (l:=T.res) (s:=s) (isLn a0) (by omega)).1 hne
  obtain ⟨hp,hf⟩:=h.cloned hne
  rw [show ar5 T.res=some T.res from by unfold ar5;cases hr2:T.res with | nil=>exact absurd hr2 hne | cons _ _=>rfl]
  exact ⟨_,_,_,_,_,w,rfl,fun K=>bp2 (h.add [aF6 T.res]).box _ _ K,hp,hf,.inr (Nat.le_refl _)⟩
theorem fnS_57 (k:Int×By):fnS (.func (.func 57) [] [vR [vI k.1,vS k.2]]) k.2:=by
 refine ⟨fun s y K KP=>?_,rfl⟩
 refine CALLF_p (g:=57) (by kernel_rfl) (s':=[]) (v:=.bool (decide (k.2=y))) ?_ rfl rfl rfl
 rw [show decide (k.2=y)=decide (y=k.2) from by rw [decide_eq_decide];exact eq_comm]
 apply ap5.b_of
 unfold ap5.b
 rw [strB];rfl
theorem del_rest {m:Nat}{M:MV}{s:List O}{lg:List By}{gv:V}{c:CV}{r:Nat}{T:TX}(h:PT s m M lg gv c r T)(hr:(T.rest.getD []).length<=1000000)(k:Int×By):∃v s2 s3 c2,RZ.R ab8 [c.c11,.func (.func 57) [] [vR [vI k.1,vS k.2]]] s=some (.ret [v] s2)/\v.good=true/\(∀K,wrO s2 T.b 11 [(v,nilB v)] K=K s3)/\PT s3 m M lg gv c2 r (delR k T)/\Fr s s3 [m,T.b,T.q,r]:=by
 have hrr:=h.tx.rr
 have hn:(∃id c',c.c11=.slo id 0 1 (T.rest.getD []).length c')∨T.rest.getD []=[]:=by
  cases hx:T.rest with
  | none=>exact .inr rfl
  | some l=>
   rw [hx] at hrr
   rcases hrr.2 with ⟨rfl,_⟩ | ⟨_,c',e⟩
   ·exact .inr rfl
   ·exact .inl ⟨_,_,e⟩
 obtain ⟨v,hv⟩:=SDel_is (fnS_57 k) h.tx.rr.sl hr hn
 rcases hv with ⟨w1,w2,rfl,w4⟩ | ⟨id,c',cs,e1,e2,w1,w2⟩
 ·refine ⟨_,s,_,{c with f11:=nilB c.c11},w1,h.tx.rr.sl.good,fun K=>bp2 h.box _ _ K,?_,Fr.set _ _ _ (by simp)⟩
  refine ⟨⟨ad5 h.box,⟨h.tx.cr.h0,h.tx.cr.h1,h.tx.cr.h8,h.tx.cr.h9,h.tx.cr.h10,h.tx.cr.h12,h.tx.cr.n0⟩,?_,?_⟩,by rw [List.getElem?_set_ne (fun e=>h.nb e.symm)];exact h.mb,h.lg,h.nb,h.nr,by rw [List.length_set];exact h.rl⟩
  ·have:(delR k T).rest=T.rest:=by
    unfold delR
    cases hx:T.rest with
    | none=>rfl
    | some l=>rw [hx] at w4;exact congrArg some w4
   rw [this]
   exact h.tx.rr.set fun hr=>by rw [List.getElem?_set_ne (fun e=>hr e.symm)]
  ·obtain ⟨k',hk⟩:=h.tx.qt
   refine ⟨k',?_⟩
   show (s.set T.b _)[T.q]? =some (.map (qes T.qt) k')
   rw [List.getElem?_set_ne h.tx.ne];exact hk
 ·cases hx:T.rest with
  | none=>rw [hx] at hrr;obtain ⟨k',e⟩:=hrr;rw [e] at e1;cases e1
  | some l=>
   rw [hx] at hrr w2 e2
   rcases hrr.2 with ⟨_,e⟩ | ⟨hrb,c2,e⟩
   ·rw [e] at e1;cases e1
   ·rw [e,hx] at e1
    injection e1 with e3 e4 e5 e6 e7
    subst e3;subst e7
    have hro:∃cs0,s[r]? =some (.box cs0):=by
     rw [e] at hrr
     rcases hrr.1 with (⟨nn,e2,_⟩ | ⟨_,k',e2⟩) | ⟨id,c3,cs,e2,g1,_⟩
     ·cases e2
     ·cases e2
     ·injection e2 with e3
      subst e3
      exact ⟨_,g1⟩
    obtain ⟨cs0,hr0⟩:=hro
    have hb2:(s.set r (.box cs))[T.b]? =some (.box (boxC c T)):=by rw [List.getElem?_set_ne hrb];exact h.box
    have hd:(delR k T).rest=some (delS k.2 l):=by unfold delR;rw [hx];rfl
    refine ⟨_,_,_,{c with c11:=v,f11:=nilB v},w1,by rw [e2];rfl,fun K=>bp2 hb2 _ _ K,?_,(Fr.set _ _ _ (by simp)).trans (Fr.set _ _ _ (by simp))⟩
    refine ⟨⟨ad5 hb2,⟨h.tx.cr.h0,h.tx.cr.h1,h.tx.cr.h8,h.tx.cr.h9,h.tx.cr.h10,h.tx.cr.h12,h.tx.cr.n0⟩,?_,?_⟩,?_,h.lg,h.nb,h.nr,by rw [List.length_set,List.length_set];exact h.rl⟩
    ·rw [hd]
     refine ⟨?_,.inr ⟨hrb,c2,e2⟩⟩
     refine w2.set fun id' c3 e4=>?_
     rw [e2] at e4
     injection e4 with e4
     subst e4
     rw [List.getElem?_set_ne (fun e=>hrb e.symm)]
    ·obtain ⟨k',hk⟩:=h.tx.qt
     refine ⟨k',?_⟩
     show ((s.set r (.box cs)).set T.b _)[T.q]? =_
     rw [List.getElem?_set_ne h.tx.ne,List.getElem?_set_ne]
     ·exact hk
     ·intro e;rw [←e,hr0] at hk;cases hk
    ·rw [List.getElem?_set_ne (fun e=>h.nb e.symm),List.getElem?_set_ne (fun e=>h.nr e.symm)];exact h.mb
theorem backS {m:Nat}{M:MV}{s:List O}{lg:List By}{gv:V}{c:CV}{r:Nat}{T:TX}(h:PT s m M lg gv c r T)(hl:T.res.length<=1000)(hy:T.yes.length<=1000000)(hr:(T.rest.getD []).length<=1000000):∃s',RZ.R ae9 [vO m 0,vO T.b 0] s=some (.ret [] s')/\Step s m M r s' lg (au7 T):=by
 obtain ⟨c',g1,g2,g3⟩:=back_is (m:=m) h.tx hl hy hr
 exact ⟨_,g3,h.putS g1 rfl rfl rfl rfl g2⟩
theorem tBefore_is {m:Nat}{M:MV}{s:List O}{lg:List By}{gv:V}{c:CV}{r n:Nat}{T:TX}{k:Int×By}{a:Int}(h:PT s m M lg gv c r T)(hB:BT n T)(hn:n<=20000)(hk:k.1=1):∃s',RZ.R ay3 [vO m 0,vO T.b 0,kV k,vI a] s=some (.ret [] s')/\Step s m M r s' lg (aj5 k a T):=by
 have J0:∀s,af2.J0 RZ s=some (.ret [] s):=fun s=>af2.am9 s rfl
 have hr:=hB.res
 have hy:=hB.yes
 have e:aj5 k a T=if a=2 then au7 {T with rest:=ar5 T.res} else T:=by unfold aj5;rw [if_pos hk]
 rw [e]
 by_cases h2:a=2
 ·subst h2
  rw [if_pos rfl]
  obtain ⟨n0,a0,z0',e0⟩:=h.tx.cr.h0.aLn
  obtain ⟨v,s2,s3,c2,r2,w1,w2,w3,w4,w5,w6⟩:=be3 h (by omega) a0 z0'
  have hl:((ar5 T.res).getD []).length<=1000000:=by
   unfold ar5
   cases hres:T.res with
   | nil=>simp
   | cons x l=>rw [hres] at hr;show (x::l).length<=_;omega
  obtain ⟨s',g1,g2⟩:=backS w4 (by show T.res.length<=_;omega) (by show T.yes.length<=_;omega) hl
  refine ⟨s',?_,Step.pre w5 w6 g2⟩
  apply af2.b_of
  unfold af2.b
  simp only [Nat.reduceAdd]
  rw [show ((2:Int)==(2:Int))=true from rfl,cond_true,rdC0 h.box,e0,cS_v w1,ck_t w2,w3,as3 g1,aT_v,aN_v]
  exact J0 _
 ·rw [if_neg h2]
  refine ⟨s,?_,h.step⟩
  apply af2.b_of
  unfold af2.b
  rw [beq_eq_false_iff_ne.2 h2,cond_false]
  exact J0 _
end Go.Proofs.YtnpjififnhjbbaaDoor.E
set_option maxRecDepth 100000
namespace Go.Proofs.YtnpjififnhjbbaaDoor.E
open Go
theorem tPrepare_is {m:Nat}{M:MV}{s:List O}{lg:List By}{gv:V}{c:CV}{r n:Nat}{T:TX}{k:Int×By}{a:Int}(h:PT s m M lg gv c r T)(hB:BT n T)(hn:n<=20000)(hk:k.1=2)(ha:1<=a/\a<=4):∃s',RZ.R ax2 [vO m 0,vO T.b 0,kV k,vI a] s=some (.ret [] s')/\Step s m M r s' lg (aj5 k a T):=by
 have J0:∀s,ab5.J0 RZ s=some (.ret [] s):=fun s=>ab5.am9 s rfl
 have J1:∀s,ab5.J1 RZ s=some (.ret [] s):=fun s=>ab5.ak6 s (J0 s)
 have J2:∀s,ab5.J2 RZ s=some (.ret [] s):=fun s=>ab5.ar1 s (J1 s)
 have J3:∀s,ab5.J3 RZ s=some (.ret [] s):=fun s=>ab5.aB4 s (J2 s)
 have hr:=hB.res
 have hy:=hB.yes
 have hrs:=hB.rest
 have e:aj5 k a T=if a=1 then delR k {T with yes:=T.yes++[k.2]} else if a=2 then au7 (delR k T) else if a=4 then au7 T else delR k T:=by
  unfold aj5;rw [if_neg (by omega),if_pos hk]
 have hdl:((delR k T).rest.getD []).length<=1000000:=by
  unfold delR
  cases hx:T.rest with
  | none=>simp
  | some l=>
   rw [hx] at hrs
   have:=List.length_filter_le (fun x=>!decide (k.2=x)) l
   show (delS k.2 l).length<=_
   unfold delS
   have hrs:l.length<=20:=hrs
   omega
 rw [e]
 have hok:∀v:V,ad2 v=true->([v,(V.func (.func 57) [] [(vR [(vI k.1),(vS k.2)])])]).all ad2=true:=fun v hv=>by simp only [List.all_cons,hv];rfl
 obtain ⟨v,s2,s3,c2,w1,w2,w3,w4,w5⟩:=del_rest h (by omega) k
 by_cases h1:a=1
 ·subst h1
  rw [if_pos rfl]
  obtain ⟨v',hv,e10⟩:=appC10 h.box h.tx.cr k.2 (by omega)
  have hp:=h.put (T':={T with yes:=T.yes++[k.2]}) (c':={c with c10:=v'}) ⟨h.tx.cr.h0,h.tx.cr.h1,h.tx.cr.h8,h.tx.cr.h9,hv,h.tx.cr.h12,h.tx.cr.n0⟩
  obtain ⟨u,t2,t3,d2,x1,x2,x3,x4,x5⟩:=del_rest hp (by show (T.rest.getD []).length<=_;omega) k
  refine ⟨t3,?_,gv,d2,r,x4,(Fr.set s _ _ (by show _∈[m,T.b,T.q,r];simp)).trans x5,.inl rfl⟩
  apply ab5.b_of
  unfold ab5.b
  simp only [Nat.reduceAdd]
  rw [show ((1:Int)==z1)=true from rfl,cond_true]
  refine (e10 _ _).trans ?_
  have hb2:(s.set T.b (.box (boxC {c with c10:=v'} T)))[T.b]? =some (.box (boxC {c with c10:=v'} T)):=ad5 h.box
  rw [be5 hb2]
  show ck _ (cS (RZ.R ab8 [c.c11,_] _) _ _)=_
  have x1':RZ.R ab8 [c.c11,.func (.func 57) [] [vR [vI k.1,vS k.2]]] (s.set T.b (.box (boxC {c with c10:=v'} T)))=some (.ret [u] t2):=x1
  rw [ck_t (hok _ h.tx.rr.sl.ad2),cS_v x1',ck_t x2]
  exact (x3 _).trans (J0 _)
 rw [if_neg h1]
 by_cases h2:a=2
 ·subst h2
  rw [if_pos rfl]
  obtain ⟨s',(g1:RZ.R ae9 [vO m 0,vO T.b 0] s3=_),g2⟩:=backS w4 (by show T.res.length<=_;omega) (by show T.yes.length<=_;omega) hdl
  refine ⟨s',?_,Step.pre w5 (.inl rfl) g2⟩
  apply ab5.b_of
  unfold ab5.b
  simp only [Nat.reduceAdd]
  rw [show ((2:Int)==z1)=false from rfl,cond_false,show ((2:Int)==(2:Int))=true from rfl,cond_true,be5 h.box,ck_t (hok _ h.tx.rr.sl.ad2),cS_v w1,ck_t w2,w3,as3 g1,aT_v,aN_v]
  exact J1 _
 rw [if_neg h2]
 by_cases h4:a=4
 ·subst h4
  rw [if_pos rfl]
  obtain ⟨s',g1,g2⟩:=backS h (by omega) (by omega) (by omega)
  refine ⟨s',?_,g2⟩
  apply ab5.b_of
  unfold ab5.b
  simp only [Nat.reduceAdd]
  rw [show ((4:Int)==z1)=false from rfl,cond_false,show ((4:Int)==(2:Int))=false from rfl,cond_false,show ((4:Int)==(3:Int))=false from rfl,cond_false,show ((4:Int)==(4:Int))=true from rfl,cond_true,as3 g1,aT_v,aN_v]
  exact J3 _
 rw [if_neg h4]
 have h3:a=3:=by omega
 subst h3
 refine ⟨s3,?_,gv,c2,r,w4,w5,.inl rfl⟩
 apply ab5.b_of
 unfold ab5.b
 simp only [Nat.reduceAdd]
 rw [show ((3:Int)==z1)=false from rfl,cond_false,show ((3:Int)==(2:Int))=false from rfl,cond_false,show ((3:Int)==(3:Int))=true from rfl,cond_true,be5 h.box,ck_t (hok _ h.tx.rr.sl.ad2),cS_v w1,ck_t w2,w3]
 exact J2 _
theorem aH1 {p q:Prop}[Decidable p][Decidable q](h:p↔q):decide p=decide q:=by rw [decide_eq_decide];exact h
theorem be0 {m:Nat}{M:MV}{s:List O}{lg:List By}{gv:V}{c:CV}{r:Nat}{T:TX}{k:Int×By}{a:Int}{v w:V}(h:PT s m M lg gv c r T)(hf:T.fgt.length<=1000000):∃s',ab0.J1 RZ T.b 0 a k.1 k.2 v w s=some (.ret [] s')/\Step s m M r s' lg (addF k a T):=by
 have J3:∀s,ab0.J3 RZ v w s=some (.ret [] s):=fun s=>ab0.aB4 _ _ s rfl
 have start:∀o,ab0.J2 RZ T.b 0 k.1 k.2 v w (decide (2<=a/\a<=4)) s=some o->ab0.J1 RZ T.b 0 a k.1 k.2 v w s=some o:=by
  intro o ho
  apply ab0.ak6
  unfold ab0.J1b
  by_cases h2:2<=a
  ·rw [show decide (a>=2)=true from decide_eq_true h2,cond_true,aH1 (show a<=4↔(2<=a/\a<=4) by omega)];exact ho
  ·rw [show decide (a>=2)=false from decide_eq_false h2,cond_false]
   rw [show decide (2<=a/\a<=4)=false from decide_eq_false fun hh=>h2 hh.1] at ho;exact ho
 by_cases hb:2<=a/\a<=4
 ·obtain ⟨v',hv,e12⟩:=appC12 h.box h.tx.cr k.2 hf
  have e:addF k a T= {T with fgt:=T.fgt++[k.2]}:=by unfold addF;rw [if_pos hb]
  refine ⟨_,start _ ?_,by rw [e];exact h.putS (c':={c with c12:=v'}) ⟨h.tx.cr.h0,h.tx.cr.h1,h.tx.cr.h8,h.tx.cr.h9,h.tx.cr.h10,hv,h.tx.cr.n0⟩⟩
  rw [decide_eq_true hb]
  apply ab0.ar1
  unfold ab0.J2b
  simp only [Nat.reduceAdd,cond_true]
  exact (e12 _ _).trans (J3 _)
 ·have e:addF k a T=T:=by unfold addF;rw [if_neg hb]
  refine ⟨s,start _ ?_,by rw [e];exact h.step⟩
  rw [decide_eq_false hb]
  exact ab0.ar1 _ _ _ _ _ _ _ _ (J3 s)
theorem tEnd_is {m:Nat}{M:MV}{s:List O}{lg:List By}{gv:V}{c:CV}{r n:Nat}{T:TX}{k:Int×By}{a:Int}(h:PT s m M lg gv c r T)(hB:BT n T)(hn:n<=20000)(hk:k.1=3∨k.1=4):∃s',RZ.R au4 [vO m 0,vO T.b 0,kV k,vI a] s=some (.ret [] s')/\Step s m M r s' lg (aj5 k a T):=by
 have hf:=hB.fgt
 have e:aj5 k a T=addF k a (if a=2∨a=3 then {T with mix:=true} else if a=4 then {T with haz:=true} else if a=5 then silT k T else T):=by
  unfold aj5;rw [if_neg (by omega),if_neg (by omega),if_pos hk]
 have start:∀o,ab0.J0 RZ T.b 0 a k.1 k.2 a (decide (a=2∨a=3)) s=some o->RZ.R au4 [vO m 0,vO T.b 0,kV k,vI a] s=some o:=by
  intro o ho
  apply ab0.b_of
  unfold ab0.b
  by_cases h2:a=2
  ·subst h2;exact ho
  ·rw [beq_eq_false_iff_ne.2 h2,cond_false,show (a==(3:Int))=decide (a=2∨a=3) from by rw [Bool.eq_iff_iff,beq_iff_eq,decide_eq_true_iff];omega];exact ho
 rw [e]
 by_cases h23:a=2∨a=3
 ·have hp:=h.put (T':={T with mix:=true}) (c':=c) ⟨h.tx.cr.h0,h.tx.cr.h1,h.tx.cr.h8,h.tx.cr.h9,h.tx.cr.h10,h.tx.cr.h12,h.tx.cr.n0⟩
  obtain ⟨s',g1,g2⟩:=be0 (k:=k) (a:=a) (v:=vI a) (w:=vB true) hp (by show T.fgt.length<=_;omega)
  rw [if_pos h23]
  have hb2:(addF k a {T with mix:=true}).b=T.b/\(addF k a {T with mix:=true}).q=T.q:=by unfold addF;split<;>exact ⟨rfl,rfl⟩
  refine ⟨s',start _ ?_,Step.pre (Fr.set _ _ _ (by rw [hb2.1];simp)) (.inl rfl) g2⟩
  apply ab0.am9
  unfold ab0.J0b
  simp only [Nat.reduceAdd]
  rw [bc4 (decide_eq_true h23),wrC6 h.box,decide_eq_true h23]
  exact g1
 rw [if_neg h23]
 have J0f:∀o,(bif (a==(4:Int)) then wrO s T.b 7 [((vB true),false)] fun s10=>ab0.J4 RZ T.b 0 a k.1 k.2 s10 else bif (a==(5:Int)) then as9 (RZ.R ak3 [(vO T.b 0),kV k] s) (fun v11 s12=>aT v11 fun c13=>aN c13 (ab0.J5 RZ T.b 0 a k.1 k.2 s12)) panK else ab0.J5 RZ T.b 0 a k.1 k.2 s)=some o->ab0.J0 RZ T.b 0 a k.1 k.2 a (decide (a=2∨a=3)) s=some o:=by
  intro o ho
  apply ab0.am9
  unfold ab0.J0b
  simp only [Nat.reduceAdd]
  rw [bz8 (decide_eq_false h23)]
  exact ho
 have J4:∀(b:Nat) (s':List O) (o:Out),ab0.J1 RZ b 0 a k.1 k.2 vN vN s'=some o->ab0.J4 RZ b 0 a k.1 k.2 s'=some o:=fun b s' o ho=>ab0.aH9 _ _ _ _ _ _ ho
 have J5:∀(b:Nat) (s':List O) (o:Out),ab0.J1 RZ b 0 a k.1 k.2 vN vN s'=some o->ab0.J5 RZ b 0 a k.1 k.2 s'=some o:=fun b s' o ho=>ab0.aY9 _ _ _ _ _ _ (J4 b s' o ho)
 by_cases h4:a=4
 ·have hp:=h.put (T':={T with haz:=true}) (c':=c) ⟨h.tx.cr.h0,h.tx.cr.h1,h.tx.cr.h8,h.tx.cr.h9,h.tx.cr.h10,h.tx.cr.h12,h.tx.cr.n0⟩
  obtain ⟨s',g1,g2⟩:=be0 (k:=k) (a:=a) (v:=vN) (w:=vN) hp (by show T.fgt.length<=_;omega)
  rw [if_pos h4]
  have hb2:(addF k a {T with haz:=true}).b=T.b/\(addF k a {T with haz:=true}).q=T.q:=by unfold addF;split<;>exact ⟨rfl,rfl⟩
  refine ⟨s',start _ (J0f _ ?_),Step.pre (Fr.set _ _ _ (by rw [hb2.1];simp)) (.inl rfl) g2⟩
  rw [beq_iff_eq.2 h4,cond_true,wrC7 h.box]
  exact J4 _ _ _ g1
 rw [if_neg h4]
 by_cases h5:a=5
 ·rw [if_pos h5]
  obtain ⟨s1,g1,g2⟩:=bt4 (k:=k) h hB hn
  have e2:addF k a (silT k T)=silT k T:=by unfold addF;rw [if_neg (by omega)]
  rw [e2]
  obtain ⟨gv1,c1,r1,p1,p2⟩:=g2
  have hfs:(silT k T).fgt.length<=1000000:=by unfold silT;simp only;split<;>(show T.fgt.length<=_;omega)
  obtain ⟨s',g3,g4⟩:=be0 (k:=k) (a:=a) (v:=vN) (w:=vN) p1 hfs
  rw [e2] at g4
  have hb:(silT k T).b=T.b:=by unfold silT;simp only;split<;>rfl
  refine ⟨s',start _ (J0f _ ?_),Step.pre p2.1 p2.2 g4⟩
  rw [beq_eq_false_iff_ne.2 h4,cond_false,beq_iff_eq.2 h5,cond_true,as3 g1,aT_v,aN_v]
  rw [hb] at g3
  exact J5 _ _ _ g3
 ·rw [if_neg h5]
  obtain ⟨s',g3,g4⟩:=be0 (k:=k) (a:=a) (v:=vN) (w:=vN) h (by omega)
  refine ⟨s',start _ (J0f _ ?_),g4⟩
  rw [beq_eq_false_iff_ne.2 h4,cond_false,beq_eq_false_iff_ne.2 h5,cond_false]
  exact J5 _ _ _ g3
theorem bd9 {m:Nat}{M:MV}{s:List O}{lg:List By}{gv:V}{c:CV}{r:Nat}{T:TX}{k:Int×By}{a:Int}{v:V}(h:PT s m M lg gv c r T)(hf:T.fgt.length<=1000000):∃s',ab2.J0 RZ T.b 0 a k.1 k.2 v s=some (.ret [] s')/\Step s m M r s' lg (addF k a T):=by
 have J2:∀s,ab2.J2 RZ v s=some (.ret [] s):=fun s=>ab2.ar1 _ s rfl
 have start:∀o,ab2.J1 RZ T.b 0 k.1 k.2 v (decide (2<=a/\a<=4)) s=some o->ab2.J0 RZ T.b 0 a k.1 k.2 v s=some o:=by
  intro o ho
  apply ab2.am9
  unfold ab2.J0b
  by_cases h2:2<=a
  ·rw [show decide (a>=2)=true from decide_eq_true h2,cond_true,aH1 (show a<=4↔(2<=a/\a<=4) by omega)];exact ho
  ·rw [show decide (a>=2)=false from decide_eq_false h2,cond_false]
   rw [show decide (2<=a/\a<=4)=false from decide_eq_false fun hh=>h2 hh.1] at ho;exact ho
 by_cases hb:2<=a/\a<=4
 ·obtain ⟨v',hv,e12⟩:=appC12 h.box h.tx.cr k.2 hf
  have e:addF k a T= {T with fgt:=T.fgt++[k.2]}:=by unfold addF;rw [if_pos hb]
  refine ⟨_,start _ ?_,by rw [e];exact h.putS (c':={c with c12:=v'}) ⟨h.tx.cr.h0,h.tx.cr.h1,h.tx.cr.h8,h.tx.cr.h9,h.tx.cr.h10,hv,h.tx.cr.n0⟩⟩
  rw [decide_eq_true hb]
  apply ab2.ak6
  unfold ab2.J1b
  simp only [Nat.reduceAdd,cond_true]
  exact (e12 _ _).trans (J2 _)
 ·have e:addF k a T=T:=by unfold addF;rw [if_neg hb]
  refine ⟨s,start _ ?_,by rw [e];exact h.step⟩
  rw [decide_eq_false hb]
  exact ab2.ak6 _ _ _ _ _ _ _ (J2 s)
theorem bB5 (k:Int×By)(a:Int)(T:TX):(addF k a T).b=T.b/\(addF k a T).q=T.q:=by unfold addF;split<;>exact ⟨rfl,rfl⟩
theorem tOne_is {m:Nat}{M:MV}{s:List O}{lg:List By}{gv:V}{c:CV}{r n:Nat}{T:TX}{k:Int×By}{a:Int}(h:PT s m M lg gv c r T)(hB:BT n T)(hn:n<=20000)(hk:k.1=5)(ha:1<=a):∃s',RZ.R au3 [vO m 0,vO T.b 0,kV k,vI a] s=some (.ret [] s')/\Step s m M r s' lg (aj5 k a T):=by
 have hf:=hB.fgt
 have e:aj5 k a T=addF k a (if a<=0∨a=2 then {T with st:=5} else if a=3 then {T with st:=4,mix:=true} else if a=4∨a=5 then {T with st:=4,haz:=true} else {T with st:=4}):=by
  unfold aj5;rw [if_neg (by omega),if_neg (by omega),if_neg (by omega),if_pos hk]
 have h4':=h.put (T':={T with st:=4}) (c':=c) ⟨h.tx.cr.h0,h.tx.cr.h1,h.tx.cr.h8,h.tx.cr.h9,h.tx.cr.h10,h.tx.cr.h12,h.tx.cr.n0⟩
 rw [e]
 have J3:∀(v:V) (s':List O) (o:Out),ab2.J0 RZ T.b 0 a k.1 k.2 v s'=some o->ab2.J3 RZ T.b 0 a k.1 k.2 v s'=some o:=fun v s' o ho=>ab2.aB4 _ _ _ _ _ _ _ ho
 by_cases h2:a=2
 ·have hp:=h.put (T':={T with st:=5}) (c':=c) ⟨h.tx.cr.h0,h.tx.cr.h1,h.tx.cr.h8,h.tx.cr.h9,h.tx.cr.h10,h.tx.cr.h12,h.tx.cr.n0⟩
  obtain ⟨s',g1,g2⟩:=bd9 (k:=k) (a:=a) (v:=vN) hp (by show T.fgt.length<=_;omega)
  rw [if_pos (.inr h2)]
  refine ⟨s',?_,Step.pre (Fr.set _ _ _ (by rw [(bB5 k a _).1];simp)) (.inl rfl) g2⟩
  apply ab2.b_of
  unfold ab2.b
  simp only [Nat.reduceAdd]
  rw [wrC4 h.box,beq_iff_eq.2 h2,cond_true]
  show wrO _ T.b 4 _ _=_
  rw [wrC4 h4'.box,ak0]
  exact g1
 rw [if_neg (by omega)]
 by_cases h3:a=3
 ·have hp:=h.put (T':={T with st:=4,mix:=true}) (c':=c) ⟨h.tx.cr.h0,h.tx.cr.h1,h.tx.cr.h8,h.tx.cr.h9,h.tx.cr.h10,h.tx.cr.h12,h.tx.cr.n0⟩
  obtain ⟨s',g1,g2⟩:=bd9 (k:=k) (a:=a) (v:=vN) hp (by show T.fgt.length<=_;omega)
  rw [if_pos h3]
  refine ⟨s',?_,Step.pre (Fr.set _ _ _ (by rw [(bB5 k a _).1];simp)) (.inl rfl) g2⟩
  apply ab2.b_of
  unfold ab2.b
  simp only [Nat.reduceAdd]
  rw [wrC4 h.box,beq_eq_false_iff_ne.2 h2,cond_false,beq_iff_eq.2 h3,cond_true,wrC6 h4'.box,ak0]
  exact J3 _ _ _ g1
 rw [if_neg h3]
 have start:∀o,ab2.J4 RZ T.b 0 a k.1 k.2 (decide (a=4∨a=5)) (s.set T.b (.box (boxC c {T with st:=4})))=some o->RZ.R au3 [vO m 0,vO T.b 0,kV k,vI a] s=some o:=by
  intro o ho
  apply ab2.b_of
  unfold ab2.b
  simp only [Nat.reduceAdd]
  rw [wrC4 h.box,beq_eq_false_iff_ne.2 h2,cond_false,beq_eq_false_iff_ne.2 h3,cond_false]
  by_cases h4:a=4
  ·subst h4;exact ho
  ·rw [beq_eq_false_iff_ne.2 h4,cond_false,show (a==(5:Int))=decide (a=4∨a=5) from by rw [Bool.eq_iff_iff,beq_iff_eq,decide_eq_true_iff];omega];exact ho
 by_cases h45:a=4∨a=5
 ·have hp:=h.put (T':={T with st:=4,haz:=true}) (c':=c) ⟨h.tx.cr.h0,h.tx.cr.h1,h.tx.cr.h8,h.tx.cr.h9,h.tx.cr.h10,h.tx.cr.h12,h.tx.cr.n0⟩
  obtain ⟨s',g1,g2⟩:=bd9 (k:=k) (a:=a) (v:=vB true) hp (by show T.fgt.length<=_;omega)
  rw [if_pos h45]
  refine ⟨s',start _ ?_,Step.pre (Fr.set _ _ _ (by rw [(bB5 k a _).1];simp)) (.inl rfl) g2⟩
  apply ab2.aH9
  unfold ab2.J4b
  simp only [Nat.reduceAdd]
  rw [bc4 (decide_eq_true h45),wrC7 h4'.box,ak0,decide_eq_true h45]
  exact ab2.aY9 _ _ _ _ _ _ _ (J3 _ _ _ g1)
 ·obtain ⟨s',g1,g2⟩:=bd9 (k:=k) (a:=a) (v:=vN) h4' (by show T.fgt.length<=_;omega)
  rw [if_neg h45]
  refine ⟨s',start _ ?_,Step.pre (Fr.set _ _ _ (by rw [(bB5 k a _).1];simp)) (.inl rfl) g2⟩
  apply ab2.aH9
  unfold ab2.J4b
  rw [bz8 (decide_eq_false h45)]
  exact ab2.aY9 _ _ _ _ _ _ _ (J3 _ _ _ g1)
theorem tForget_is {m:Nat}{M:MV}{s:List O}{lg:List By}{gv:V}{c:CV}{r n:Nat}{T:TX}{k:Int×By}{a:Int}(h:PT s m M lg gv c r T)(hB:BT n T)(hn:n<=20000)(hk:k.1=6):∃s',RZ.R ay2 [vO m 0,vO T.b 0,kV k,vI a] s=some (.ret [] s')/\Step s m M r s' lg (aj5 k a T):=by
 have J0:∀s,af1.J0 RZ s=some (.ret [] s):=fun s=>af1.am9 s rfl
 have e:aj5 k a T=if a=2 then silT k T else T:=by
  unfold aj5;rw [if_neg (by omega),if_neg (by omega),if_neg (by omega),if_neg (by omega),if_pos hk]
 rw [e]
 by_cases h2:a=2
 ·subst h2
  rw [if_pos rfl]
  obtain ⟨s1,g1,g2⟩:=bt4 (k:=k) h hB hn
  refine ⟨s1,?_,g2⟩
  apply af1.b_of
  unfold af1.b
  rw [show ((2:Int)==(2:Int))=true from rfl,cond_true]
  show as9 (RZ.R ak3 [vO T.b 0,kV k] s) _ _=_
  rw [as3 g1,aT_v,aN_v]
  exact J0 _
 ·rw [if_neg h2]
  refine ⟨s,?_,h.step⟩
  apply af1.b_of
  unfold af1.b
  rw [beq_eq_false_iff_ne.2 h2,cond_false]
  exact J0 _
end Go.Proofs.YtnpjififnhjbbaaDoor.E
set_option maxRecDepth 100000
namespace Go.Proofs.YtnpjififnhjbbaaDoor.E
open Go
theorem ay0 {k:Int×By}{l:List By}{n:Int}(h:k∈l.map fun s=>(n,s)):k.2∈l:=by
 obtain ⟨x,hx,rfl⟩:=List.mem_map.1 h;exact hx
theorem BT.mono {n n':Nat}{T:TX}(h:BT n T)(hn:n<=n'):BT n' T:=
 ⟨h.res,h.wat,h.num,Nat.le_trans h.que hn,Nat.le_trans h.yes hn,Nat.le_trans h.dbt hn,Nat.le_trans h.fgt hn,h.rest,h.nres,h.nyes,h.nque,fun e he=>by have:=h.qt e he;omega⟩
theorem BT.cmt {n:Nat}{T:TX}(h:BT n T)(hq:T.que=[]):BT n (cmtT T):=by
 refine ⟨h.res,h.wat,h.num,?_,h.yes,h.dbt,h.fgt,h.rest,h.nres,h.nyes,fun k hk=>?_,h.qt⟩
 ·show (T.que++T.yes.map fun s=>((3:Int),s)).length<=n
  rw [hq];simpa using h.yes
 ·have hk:k∈T.que++T.yes.map fun s=>((3:Int),s):=hk
  rw [hq,List.nil_append] at hk
  exact h.nyes _ (ay0 hk)
theorem BT.prep {n:Nat}{T:TX}(h:BT n T)(hq:T.que=[])(hn:20<=n):BT n (aj1 T):=by
 have hr:=h.res
 unfold aj1
 split
 ·exact h.cmt hq
 ·split
  ·exact h.cmt hq
  ·rename_i a e
   refine ⟨h.res,h.wat,h.num,by show 1<=n;omega,h.yes,h.dbt,h.fgt,by simp,h.nres,h.nyes,fun k hk=>?_,h.qt⟩
   have hk:k∈[((5:Int),a)]:=hk
   rw [List.mem_singleton] at hk
   rw [hk];exact h.nres a (by rw [e];simp)
  ·refine ⟨h.res,h.wat,h.num,?_,h.yes,h.dbt,h.fgt,hr,h.nres,h.nyes,fun k hk=>?_,h.qt⟩
   ·show (T.que++T.res.map fun s=>((2:Int),s)).length<=n
    rw [hq];simp;omega
   ·have hk:k∈T.que++T.res.map fun s=>((2:Int),s):=hk
    rw [hq,List.nil_append] at hk
    exact h.nres _ (ay0 hk)
theorem BT.end {n:Nat}{T:TX}(h:BT n T)(hw:∀x∈T.wat,x.size<=40)(hq:T.que=[])(hn:20<=n):BT n (endT T):=by
 have hr:=h.res
 have hwl:=h.wat
 unfold endT
 split
 ·refine ⟨h.res,h.wat,h.num,?_,h.yes,h.dbt,h.fgt,h.rest,h.nres,h.nyes,fun k hk=>?_,h.qt⟩
  ·show (T.que++T.wat.map fun s=>((7:Int),s)).length<=n
   rw [hq];simp;omega
  ·have hk:k∈T.que++T.wat.map fun s=>((7:Int),s):=hk
   rw [hq,List.nil_append] at hk
   exact hw _ (ay0 hk)
 ·refine ⟨h.res,h.wat,h.num,?_,h.yes,h.dbt,by simp,h.rest,h.nres,h.nyes,fun k hk=>?_,h.qt⟩
  ·show (T.que++(T.res.filter fun s=>hasS s T.fgt).map fun s=>((6:Int),s)).length<=n
   have:=List.length_filter_le (fun s=>hasS s T.fgt) T.res
   rw [hq];simp only [List.nil_append,List.length_map];omega
  ·have hk:k∈T.que++(T.res.filter fun s=>hasS s T.fgt).map fun s=>((6:Int),s):=hk
   rw [hq,List.nil_append] at hk
   exact h.nres _ (List.mem_filter.1 (ay0 hk)).1
theorem BT.back {n:Nat}{T:TX}(h:BT n T)(hn:20<=n):BT n (au7 T):=by
 have hr:=h.res
 refine ⟨h.res,h.wat,h.num,?_,h.yes,h.dbt,h.fgt,h.rest,h.nres,h.nyes,fun k hk=>?_,h.qt⟩
 ·show ((T.res.filter (au2 T)).map fun s=>((4:Int),s)).length<=n
  have:=List.length_filter_le (au2 T) T.res
  rw [List.length_map];omega
 ·exact h.nres _ (List.mem_filter.1 (ay0 (show k∈(T.res.filter (au2 T)).map fun s=>((4:Int),s) from hk))).1
theorem mem_putQ {k:Int×By}{m:Int}{e:(Int×By)×Int}:∀{l:List ((Int×By)×Int)},e∈putQ k m l->e∈l∨e.2=m
 | [],h=>by
  have h:e∈[(k,m)]:=h
  rw [List.mem_singleton] at h
  exact .inr (by rw [h])
 | (j,n)::r,h=>by
  rw [show putQ k m ((j,n)::r)=if k=j then (j,m)::r else (j,n)::putQ k m r from rfl] at h
  by_cases hk:k=j
  ·rw [if_pos hk] at h
   rcases List.mem_cons.1 h with rfl | h
   ·exact .inr rfl
   ·exact .inl (List.mem_cons_of_mem _ h)
  ·rw [if_neg hk] at h
   rcases List.mem_cons.1 h with rfl | h
   ·exact .inl (List.mem_cons_self ..)
   ·rcases mem_putQ h with h | h
    ·exact .inl (List.mem_cons_of_mem _ h)
    ·exact .inr h
theorem BT.sil {n:Nat}{T:TX}{k:Int×By}(h:BT n T)(hk:k.2.size<=40):BT (n+1) (silT k T):=by
 have hq:=h.que
 have hd:=h.dbt
 have hy:=h.yes
 have hf:=h.fgt
 have hqt:∀e∈putQ k (getQ k T.qt+1) T.qt,0<=e.2/\e.2<=((n+1:Nat):Int):=by
  intro e he
  rcases mem_putQ he with he | he
  ·have:=h.qt e he;omega
  ·have:=by4 (k:=k) h.qt;omega
 unfold silT
 simp only
 split
 ·refine ⟨h.res,h.wat,h.num,by show T.que.length<=_;omega,by show T.yes.length<=_;omega,?_,by show T.fgt.length<=_;omega,h.rest,h.nres,h.nyes,h.nque,hqt⟩
  show (bif hasS k.2 T.dbt then T.dbt else T.dbt++[k.2]).length<=_
  cases hasS k.2 T.dbt<;>simp<;>omega
 ·refine ⟨h.res,h.wat,h.num,by show (T.que++[k]).length<=_;simp;omega,by show T.yes.length<=_;omega,by show T.dbt.length<=_;omega,by show T.fgt.length<=_;omega,h.rest,h.nres,h.nyes,fun j hj=>?_,hqt⟩
  have hj:j∈T.que++[k]:=hj
  rcases List.mem_append.1 hj with hj | hj
  ·exact h.nque j hj
  ·rw [List.mem_singleton] at hj;rw [hj];exact hk
theorem BT.addF {n:Nat}{T:TX}{k:Int×By}{a:Int}(h:BT n T):BT (n+1) (addF k a T):=by
 have hf:=h.fgt
 unfold E.addF
 split
 ·have h':=h.mono (Nat.le_succ n)
  exact ⟨h'.res,h'.wat,h'.num,h'.que,h'.yes,h'.dbt,by show (T.fgt++[k.2]).length<=_;simp;omega,h'.rest,h'.nres,h'.nyes,h'.nque,h'.qt⟩
 ·exact h.mono (Nat.le_succ n)
theorem BT.st {n:Nat}{T:TX}(h:BT n T){st:Int}{com mix haz:Bool}:BT n {T with st:=st,com:=com,mix:=mix,haz:=haz}:=⟨h.res,h.wat,h.num,h.que,h.yes,h.dbt,h.fgt,h.rest,h.nres,h.nyes,h.nque,h.qt⟩
theorem BT.delR {n:Nat}{T:TX}{k:Int×By}(h:BT n T):BT n (delR k T):=by
 refine ⟨h.res,h.wat,h.num,h.que,h.yes,h.dbt,h.fgt,?_,h.nres,h.nyes,h.nque,h.qt⟩
 have:=h.rest
 unfold E.delR
 cases hx:T.rest with
 | none=>simp
 | some l=>
  rw [hx] at this
  exact Nat.le_trans (List.length_filter_le _ _) this
theorem BT.told {n:Nat}{T:TX}{k:Int×By}{a:Int}(h:BT n T)(hn:20<=n)(hk:k.2.size<=40):BT (n+1) (aj5 k a T):=by
 have h':=h.mono (Nat.le_succ n)
 have hr:=h.res
 have hy:=h.yes
 unfold aj5
 split
 ·split
  ·refine BT.back ⟨h'.res,h'.wat,h'.num,h'.que,h'.yes,h'.dbt,h'.fgt,?_,h'.nres,h'.nyes,h'.nque,h'.qt⟩ (by omega)
   show ((ar5 T.res).getD []).length<=20
   unfold ar5
   cases hres:T.res with
   | nil=>simp
   | cons x l=>rw [hres] at hr;exact hr
  ·exact h'
 split
 ·split
  ·refine BT.delR ⟨h'.res,h'.wat,h'.num,h'.que,by show (T.yes++[k.2]).length<=_;simp;omega,h'.dbt,h'.fgt,h'.rest,h'.nres,fun x hx=>?_,h'.nque,h'.qt⟩
   have hx:x∈T.yes++[k.2]:=hx
   rcases List.mem_append.1 hx with hx | hx
   ·exact h.nyes x hx
   ·rw [List.mem_singleton] at hx;rw [hx];exact hk
  split
  ·exact (h'.delR).back (by omega)
  split
  ·exact h'.back (by omega)
  ·exact h'.delR
 split
 ·split
  ·exact h.st.addF
  split
  ·exact h.st.addF
  split
  ·rename_i h5
   have e:E.addF k a (silT k T)=silT k T:=by unfold E.addF;rw [if_neg (by omega)]
   rw [e];exact h.sil hk
  ·exact h.addF
 split
 ·split
  ·exact h.st.addF
  split
  ·exact h.st.addF
  split
  ·exact h.st.addF
  ·exact h.st.addF
 split
 ·split
  ·exact h.sil hk
  ·exact h'
 ·exact h'
theorem BT.set {n:Nat}(hn:20<=n):∀(f:Nat) {T:TX},BT n T->(∀x∈T.wat,x.size<=40)->BT n (setT f T)
 | 0,_,h,_=>h
 | f+1,T,h,hw=>by
  unfold setT
  split
  ·rename_i hq
   split
   ·refine BT.set hn f (h.prep hq hn) ?_
    have:(aj1 T).wat=T.wat:=by unfold aj1;split<;>(try split)<;>rfl
    rw [this];exact hw
   split
   ·refine BT.set hn f (h.end hw hq hn) ?_
    have:(endT T).wat=T.wat:=by unfold endT;split<;>rfl
    rw [this];exact hw
   ·exact h
  ·exact h
end Go.Proofs.YtnpjififnhjbbaaDoor.E
set_option maxRecDepth 100000
namespace Go.Proofs.YtnpjififnhjbbaaDoor.E
open Go
def phV :List (V×V):=[(vI 3,.func (.func 54) [] []),(vI 4,.func (.func 55) [] []),(vI 5,.func (.func 55) [] [])]
theorem bv4 (s:List O):∃c,RZ.R aC8 [] s=some (.ret [.map s.length] (s++[O.map phV c])):=by
 suffices h:∃c,aK1.b RZ.R RZ.D s=some (.ret [.map s.length] (s++[O.map phV c])) from h.elim fun c h=>⟨c,aK1.b_of s h⟩
 unfold aK1.b
 simp only [aG4]
 rw [show ∀K,putK (vI 3) (V.func (.func 54) [] []) [] K=K [(vI 3,V.func (.func 54) [] [])] from fun K=>rfl]
 simp only [aG4,be1]
 rw [show ∀K,putK (vI 4) (V.func (.func 55) [] []) [(vI 3,V.func (.func 54) [] [])] K=K [(vI 3,V.func (.func 54) [] []),(vI 4,V.func (.func 55) [] [])] from fun K=>rfl]
 rw [show ∀K,putK (vI 5) (V.func (.func 55) [] []) [(vI 3,V.func (.func 54) [] []),(vI 4,V.func (.func 55) [] [])] K=K phV from fun K=>rfl]
 exact ⟨_,rfl⟩
def phF (n:Int):Option V:=if n=3 then some (.func (.func 54) [] []) else if n=4∨n=5 then some (.func (.func 55) [] []) else none
theorem findK_ph (n:Int)(K:Option V->R):ar6 (vI n) phV K=K (phF n):=by
 unfold ar6
 have h:aB1 (vI n) phV=some (phF n):=by
  show (some (n==3)).bind (fun b=>bif b then some (some (V.func (.func 54) [] [])) else (some (n==4)).bind fun b=>bif b then some (some (V.func (.func 55) [] [])) else (some (n==5)).bind fun b=>bif b then some (some (V.func (.func 55) [] [])) else some none)=_
  simp only [Option.bind_some]
  unfold phF
  by_cases h3:n=3
  ·subst h3;rfl
  ·rw [beq_eq_false_iff_ne.2 h3,if_neg h3]
   by_cases h4:n=4
   ·subst h4;rfl
   ·rw [beq_eq_false_iff_ne.2 h4]
    by_cases h5:n=5
    ·subst h5;rfl
    ·rw [beq_eq_false_iff_ne.2 h5,if_neg (by omega)];rfl
 rw [h]
theorem aU4 {l:List (Int×By)}:((((as7 l).length:Nat):Int)==z0)=l.isEmpty:=by
 rw [aU5]
 cases l with
 | nil=>rfl
 | cons k l=>
  rw [beq_eq_false_iff_ne.2]
  ·rfl
  ·show (((k::l).length:Nat):Int)≠0
   simp only [List.length_cons];omega
def fin (T:TX):Prop:=T.que≠[]∨(T.st≠3/\T.st≠4/\T.st≠5)
theorem aR2 (T:TX):(aj1 T).b=T.b/\(aj1 T).q=T.q/\(aj1 T).wat=T.wat:=by unfold aj1 cmtT;split<;>(try split)<;>exact ⟨rfl,rfl,rfl⟩
theorem bg4 (T:TX):(endT T).b=T.b/\(endT T).q=T.q/\(endT T).wat=T.wat:=by unfold endT;split<;>exact ⟨rfl,rfl,rfl⟩
theorem bv1 (T:TX):(au0 T).length<=1:=by
 unfold au0 cmtL;split<;>(try split)<;>(try split)<;>simp
theorem endL_len (T:TX):(endL T).length<=1:=by
 unfold endL;split<;>(try split)<;>simp
theorem ba1 :∀(f:Nat) (T:TX),(setT f T).b=T.b/\(setT f T).q=T.q
 | 0,_=>⟨rfl,rfl⟩
 | f+1,T=>by
  unfold setT
  split
  ·split
   ·rw [(ba1 f _).1,(ba1 f _).2,(aR2 T).1,(aR2 T).2.1];exact ⟨rfl,rfl⟩
   split
   ·rw [(ba1 f _).1,(ba1 f _).2,(bg4 T).1,(bg4 T).2.1];exact ⟨rfl,rfl⟩
   ·exact ⟨rfl,rfl⟩
  ·exact ⟨rfl,rfl⟩
theorem settle_loop {m:Nat}{M:MV}{n:Nat}(hn:20<=n/\n<=20000):∀(f:Nat) (s:List O) (lg:List By) (gv:V) (c:CV) (r:Nat) (T:TX),PT s m M lg gv c r T->BT n T->(∀x∈T.wat,x.size<=40)->lg.length+f<=100000->fin (setT f T) ->
  ∃s',Step s m M r s' (lg++setL f T) (setT f T)/\∀o,aa6.J1 RZ m 0 T.b 0 false s'=some o->aa6.L0 RZ m 0 T.b 0 true s=some o:=by
 have tail:∀(s':List O) (b:Nat) (o:Out),aa6.J1 RZ m 0 b 0 false s'=some o->aa6.J2 RZ m 0 b 0 false s'=some o:=by
  intro s' b o ho
  exact aa6.ar1 _ _ _ _ _ _ (aa6.ag4 _ _ _ _ _ _ ho)
 have stay:∀(s:List O) (lg:List By) (gv:V) (c:CV) (r:Nat) (T:TX),PT s m M lg gv c r T->fin T->∃s',Step s m M r s' lg T/\∀o,aa6.J1 RZ m 0 T.b 0 false s'=some o->aa6.L0 RZ m 0 T.b 0 true s=some o:=by
  intro s lg gv c r T h hf
  obtain ⟨n9,a9,e9⟩:=h.tx.cr.h9.aL
  have go:∀o,aa6.J1 RZ m 0 T.b 0 (T.que.isEmpty) s=some o->aa6.L0 RZ m 0 T.b 0 true s=some o:=by
   intro o ho
   apply aa6.ag4
   unfold aa6.L0b
   simp only [Nat.reduceAdd,cond_true]
   rw [rdC9 h.box,e9,aU4]
   exact ho
  cases hq:T.que with
  | cons k l=>exact ⟨s,h.step,fun o ho=>go o (by rw [hq];exact ho)⟩
  | nil=>
   obtain ⟨h3,h4,h5⟩:=hf.resolve_left fun h=>h hq
   obtain ⟨cc,hc⟩:=bv4 s
   refine ⟨_,h.addS [O.map phV cc],fun o ho=>go o ?_⟩
   rw [hq]
   apply aa6.ak6
   unfold aa6.J1b
   simp only [Nat.reduceAdd,List.isEmpty_nil,cond_true]
   have hp:phF T.st=none:=by unfold phF;rw [if_neg h3,if_neg (by omega)]
   simp only [cS_v hc,aM2,rdC4 (h.add [O.map phV cc]).box,rdC4 h.box,aI_v,aG4,findK_ph,hp,Option.isSome_none,cond_false,as4,aw0]
   exact tail _ _ _ ho
 intro f
 induction f with
 | zero=>
  intro s lg gv c r T h hB hw hlg hf
  obtain ⟨s',g1,g2⟩:=stay s lg gv c r T h hf
  exact ⟨s',by show Step s m M r s' (lg++[]) T;rw [List.append_nil];exact g1,g2⟩
 | succ f ih=>
  intro s lg gv c r T h hB hw hlg hf
  by_cases hq:T.que=[]
  rotate_left
  ·have e1:setT (f+1) T=T:=by unfold setT;split<;>first | (rename_i hq';exact absurd hq' hq) | rfl
   have e2:setL (f+1) T=[]:=by unfold setL;split<;>first | (rename_i hq';exact absurd hq' hq) | rfl
   rw [e1] at hf ⊢
   rw [e2,List.append_nil]
   exact stay s lg gv c r T h hf
  ·obtain ⟨n9,a9,e9⟩:=h.tx.cr.h9.aL
   obtain ⟨cc,hc⟩:=bv4 s
   have hadd:=h.add [O.map phV cc]
   have go:∀o,aa6.J1 RZ m 0 T.b 0 true s=some o->aa6.L0 RZ m 0 T.b 0 true s=some o:=by
    intro o ho
    apply aa6.ag4
    unfold aa6.L0b
    simp only [Nat.reduceAdd,cond_true]
    rw [rdC9 h.box,e9,aU4,hq]
    exact ho
   have phase:∀(g:Nat) (T1:TX) (L1:List By),fnQ 1 g=true->phF T.st=some (.func (.func g) [] [])->(∃s',RZ.R g [vO m 0,vO T.b 0] (s++[O.map phV cc])=some (.ret [vB true] s')/\Step (s++[O.map phV cc]) m M r s' (lg++L1) T1)->BT n T1->T1.b=T.b->T1.q=T.q->T1.wat=T.wat->L1.length<=1->fin (setT f T1)->∃s',Step s m M r s' (lg++(L1++setL f T1)) (setT f T1)/\∀o,aa6.J1 RZ m 0 T.b 0 false s'=some o->aa6.L0 RZ m 0 T.b 0 true s=some o:=by
    intro g T1 L1 hg hph ⟨s1,g1,gv1,c1,r1,p1,p2,p3⟩ hB1 hb1 hq1 hw1 hL1 hf1
    obtain ⟨s2,q1,q2⟩:=ih s1 (lg++L1) gv1 c1 r1 T1 p1 hB1 (by rw [hw1];exact hw) (by rw [List.length_append];omega) hf1
    rw [hb1] at q2
    rw [List.append_assoc] at q1
    have hb2:=ba1 f T1
    rw [hb1,hq1] at hb2 p2
    refine ⟨s2,Step.pre (Fr.add s _ _) (.inl rfl) (Step.pre (by rw [hb2.1,hb2.2];exact p2) p3 q1),fun o ho=>go o ?_⟩
    have hcall:∀K KP,aD5 RZ.R (.func (.func g) [] []) [vO m 0,vO T.b 0] (s++[O.map phV cc]) K KP=K (vB true) s1:=fun K KP=>bj0 hg (a:=[]) (b:=[]) g1 rfl
    apply aa6.ak6
    unfold aa6.J1b
    simp only [Nat.reduceAdd,cond_true]
    simp only [cS_v hc,aM2,rdC4 hadd.box,rdC4 h.box,aI_v,aG4,findK_ph,hph,Option.isSome_some,Option.getD_some,cond_true,hcall,aB_v,as4,aw0]
    exact aa6.ar1 _ _ _ _ _ _ (q2 o ho)
   by_cases h3:T.st=3
   ·have e1:setT (f+1) T=setT f (aj1 T):=by rw [show setT (f+1) T=match T.que with | []=>if T.st=3 then setT f (aj1 T) else if T.st=4∨T.st=5 then setT f (endT T) else T | _=>T from rfl,hq];simp only [h3,if_true]
    have e2:setL (f+1) T=au0 T++setL f (aj1 T):=by rw [show setL (f+1) T=match T.que with | []=>if T.st=3 then au0 T++setL f (aj1 T) else if T.st=4∨T.st=5 then endL T++setL f (endT T) else [] | _=>[] from rfl,hq];simp only [h3,if_true]
    rw [e1] at hf ⊢
    rw [e2]
    exact phase 54 (aj1 T) (au0 T) (by kernel_rfl) (by unfold phF;rw [if_pos h3]) (prepared_is hadd hB hn.2 (by omega)) (hB.prep hq hn.1) (aR2 T).1 (aR2 T).2.1 (aR2 T).2.2 (bv1 T) hf
   ·by_cases h45:T.st=4∨T.st=5
    ·have e1:setT (f+1) T=setT f (endT T):=by rw [show setT (f+1) T=match T.que with | []=>if T.st=3 then setT f (aj1 T) else if T.st=4∨T.st=5 then setT f (endT T) else T | _=>T from rfl,hq];simp only [h3,if_false,h45,if_true]
     have e2:setL (f+1) T=endL T++setL f (endT T):=by rw [show setL (f+1) T=match T.que with | []=>if T.st=3 then au0 T++setL f (aj1 T) else if T.st=4∨T.st=5 then endL T++setL f (endT T) else [] | _=>[] from rfl,hq];simp only [h3,if_false,h45,if_true]
     rw [e1] at hf ⊢
     rw [e2]
     exact phase 55 (endT T) (endL T) (by kernel_rfl) (by unfold phF;rw [if_neg h3,if_pos h45]) (ended_is hadd hB hn.2 (by omega)) (hB.end hw hq hn.1) (bg4 T).1 (bg4 T).2.1 (bg4 T).2.2 (endL_len T) hf
    ·have e1:setT (f+1) T=T:=by rw [show setT (f+1) T=match T.que with | []=>if T.st=3 then setT f (aj1 T) else if T.st=4∨T.st=5 then setT f (endT T) else T | _=>T from rfl,hq];simp only [h3,if_false,h45]
     have e2:setL (f+1) T=[]:=by rw [show setL (f+1) T=match T.que with | []=>if T.st=3 then au0 T++setL f (aj1 T) else if T.st=4∨T.st=5 then endL T++setL f (endT T) else [] | _=>[] from rfl,hq];simp only [h3,if_false,h45]
     rw [e1] at hf ⊢
     rw [e2,List.append_nil]
     exact stay s lg gv c r T h hf
end Go.Proofs.YtnpjififnhjbbaaDoor.E
set_option maxRecDepth 100000
namespace Go.Proofs.YtnpjififnhjbbaaDoor.E
open Go
def LnR (s:List O)(v:V)(ln:List Nat):Prop:=(ln=[]/\∃k,v=.list false k [])∨∃id c cs,v=.slo id 0 1 ln.length c/\s[id]? =some (.box cs)/\ln.length<=c/\ln.length<=cs.length/\∀(j:Nat) (x:Nat),ln[j]? =some x->(cs[j]?).map (·.1)=some (V.obj x 0)
theorem LnR.pl {s:List O}{v:V}{ln:List Nat}(h:LnR s v ln):PL s v ln:=by
 rcases h with ⟨rfl,k,rfl⟩ | h
 ·exact .inl aq7
 ·exact .inr h
theorem LnR.good {s:List O}{v:V}{ln:List Nat}(h:LnR s v ln):v.good=true:=h.pl.good
structure MgC (s:List O)(m:Nat)(M:MV)(gv:V)(col:Nat->Nat)(lg:List By)(tx:List TX)(ln:List Nat):Prop where
 mb:s[m]? =some (.box (boxM M gv true))
 lg:isL 1 (aa1 lg) gv
 cm:col m=0
 cmp:col M.mp=0
 ln:LnR s M.lv ln
 cl:∀id k n c,M.lv=.slo id 0 k n c->col id=1/\id<s.length
 mp:∃k,s[M.mp]? =some (.map (tx.map fun T=>(vI T.num,vO T.b 0)) k)
 tx:∀(i:Nat) (T:TX),tx[i]? =some T->T.num=(i:Int)+1/\∃c r,TxC s c r T/\r<s.length/\col T.b=i+2/\col T.q=i+2/\col r=i+2
theorem MgC.pt {s:List O}{m:Nat}{M:MV}{gv:V}{col:Nat->Nat}{lg:List By}{tx:List TX}{ln:List Nat}(h:MgC s m M gv col lg tx ln){i:Nat}{T:TX}(hi:tx[i]? =some T):∃c r,PT s m M lg gv c r T/\col T.b=i+2/\col T.q=i+2/\col r=i+2:=by
 obtain ⟨_,c,r,h1,h2,h3,h4,h5⟩:=h.tx i T hi
 have hm:=h.cm
 exact ⟨c,r,⟨h1,h.mb,h.lg,fun e=>by rw [←e] at h3;omega,fun e=>by rw [←e] at h5;omega,h2⟩,h3,h4,h5⟩
theorem ad9 {α:Type}{l:List α}{i:Nat}{x:α}(h:l[i]? =some x):i<l.length:=(List.getElem?_eq_some_iff.1 h).1
theorem TxC.low {s s':List O}{c:CV}{r:Nat}{T:TX}(h:TxC s c r T)(h1:s'[T.b]? =s[T.b]?)(h2:s'[T.q]? =s[T.q]?)(h3:s'[r]? =s[r]?):TxC s' c r T:=
 ⟨by rw [h1];exact h.box,h.cr,h.rr.set fun _=>h3,by obtain ⟨k,hk⟩:=h.qt;exact ⟨k,by rw [h2];exact hk⟩⟩
theorem LnR.low {s s':List O}{v:V}{ln:List Nat}(h:LnR s v ln)(hs:∀id k n c,v=.slo id 0 k n c->s'[id]? =s[id]?):LnR s' v ln:=by
 rcases h with h | ⟨id,c,cs,rfl,h1,h2⟩
 ·exact .inl h
 ·exact .inr ⟨id,c,cs,rfl,by rw [hs id _ _ _ rfl];exact h1,h2⟩
theorem MgC.step {s:List O}{m:Nat}{M:MV}{gv:V}{col:Nat->Nat}{lg:List By}{tx:List TX}{ln:List Nat}(h:MgC s m M gv col lg tx ln){i:Nat}{T:TX}(hi:tx[i]? =some T){c:CV}{r:Nat}(hp:PT s m M lg gv c r T)(hc:col r=i+2){s':List O}{lg':List By}{T':TX}(hs:Step s m M r s' lg' T')(hb:T'.b=T.b)(hq:T'.q=T.q)(hn:T'.num=T.num):
  ∃gv' col',MgC s' m M gv' col' lg' (tx.set i T') ln:=by
 obtain ⟨gv',c',r',p,⟨f1,f2⟩,f3⟩:=hs
 obtain ⟨hnum,_,_,_,_,hcb,hcq,_⟩:=h.tx i T hi
 have hm:=h.cm
 have keep:∀j,j<s.length->col j≠i+2->j≠m->s'[j]? =s[j]? :=by
  intro j hj hne hjm
  refine f2 j hj ?_
  simp only [List.mem_cons,List.not_mem_nil,or_false,not_or]
  rw [hb,hq]
  exact ⟨hjm,fun e=>hne (by rw [e];exact hcb),fun e=>hne (by rw [e];exact hcq),fun e=>hne (by rw [e];exact hc)⟩
 have hml:=ad9 h.mb
 obtain ⟨k,hk⟩:=h.mp
 have hmpl:=ad9 hk
 have hmpm:M.mp≠m:=by intro e;rw [e,h.mb] at hk;cases hk
 have hbl:=ad9 hp.box
 have hql:T.q<s.length:=by obtain ⟨k,hk⟩:=hp.tx.qt;exact ad9 hk
 refine ⟨gv',fun j=>if j<s.length then col j else i+2,p.mb,p.lg,?_,?_,h.ln.low fun id k n c e=>?_,fun id k n c e=>?_,⟨k,?_⟩,fun j T2 hj=>?_⟩
 ·show (if m<s.length then col m else i+2)=0;rw [if_pos hml];exact hm
 ·show (if M.mp<s.length then col M.mp else i+2)=0;rw [if_pos hmpl];exact h.cmp
 ·obtain ⟨e1,e2⟩:=h.cl id k n c e
  exact keep id e2 (by omega) (fun e3=>by rw [e3] at e1;omega)
 ·obtain ⟨e1,e2⟩:=h.cl id k n c e
  show (if id<s.length then col id else i+2)=1/\_
  rw [if_pos e2];exact ⟨e1,by omega⟩
 ·have hcm2:=h.cmp
  rw [keep _ hmpl (by omega) hmpm,hk]
  congr 2
  refine List.ext_getElem? fun j=>?_
  rw [List.getElem?_map,List.getElem?_map,List.getElem?_set]
  by_cases e:i=j
  ·subst e
   rw [if_pos rfl,if_pos (ad9 hi),hi]
   simp only [Option.map_some,hb,hn]
  ·rw [if_neg e]
 ·rw [List.getElem?_set] at hj
  by_cases e:i=j
  ·subst e
   rw [if_pos rfl,if_pos (ad9 hi)] at hj
   injection hj with hj
   subst hj
   refine ⟨by rw [hn];exact hnum,c',r',p.tx,p.rl,?_,?_,?_⟩
   ·show (if T'.b<s.length then col T'.b else i+2)=i+2
    rw [hb,if_pos hbl];exact hcb
   ·show (if T'.q<s.length then col T'.q else i+2)=i+2
    rw [hq,if_pos hql];exact hcq
   ·show (if r'<s.length then col r' else i+2)=i+2
    rcases f3 with rfl | f3
    ·rw [if_pos hp.rl];exact hc
    ·rw [if_neg (by omega)]
  ·rw [if_neg e] at hj
   obtain ⟨g1,c2,r2,g2,g3,g4,g5,g6⟩:=h.tx j T2 hj
   have hb2:=ad9 g2.box
   have hq2:T2.q<s.length:=by obtain ⟨k,hk⟩:=g2.qt;exact ad9 hk
   refine ⟨g1,c2,r2,g2.low (keep _ hb2 (by omega) (fun e=>by rw [e] at g4;omega)) (keep _ hq2 (by omega) (fun e=>by rw [e] at g5;omega)) (keep _ g3 (by omega) (fun e=>by rw [e] at g6;omega)),by omega,?_,?_,?_⟩
   ·show (if T2.b<s.length then col T2.b else i+2)=j+2;rw [if_pos hb2];exact g4
   ·show (if T2.q<s.length then col T2.q else i+2)=j+2;rw [if_pos hq2];exact g5
   ·show (if r2<s.length then col r2 else i+2)=j+2;rw [if_pos g3];exact g6
theorem MgC.setM {s s0:List O}{m:Nat}{M:MV}{gv:V}{col:Nat->Nat}{lg:List By}{tx:List TX}{ln ln':List Nat}(h:MgC s m M gv col lg tx ln)(M':MV)(hmp:M'.mp=M.mp)(hlen:s.length<=s0.length)(hl:LnR s0 M'.lv ln')(hid:∀id k n c,M'.lv=.slo id 0 k n c->id=s.length∨∃k' n' c',M.lv=.slo id 0 k' n' c')(hid2:∀id k n c,M'.lv=.slo id 0 k n c->id<s0.length)(hs:∀j,j<s.length->(∀k n c,M.lv≠.slo j 0 k n c)->s0[j]? =s[j]?):
  ∃col',MgC (s0.set m (.box (boxM M' gv true))) m M' gv col' lg tx ln':=by
 have hm:=h.cm
 have hml:=ad9 h.mb
 obtain ⟨k,hk⟩:=h.mp
 have hmpl:=ad9 hk
 have hmpm:M.mp≠m:=by intro e;rw [e,h.mb] at hk;cases hk
 have keep:∀j,j<s.length->col j≠1->j≠m->(s0.set m (.box (boxM M' gv true)))[j]? =s[j]? :=by
  intro j hj hne hjm
  rw [List.getElem?_set_ne (fun e=>hjm e.symm)]
  refine hs j hj fun k n c e=>hne (h.cl j k n c e).1
 refine ⟨fun j=>if j=s.length then 1 else col j,List.getElem?_set_self (by omega),h.lg,?_,?_,hl.low fun id k n c e=>?_,fun id k n c e=>?_,⟨k,?_⟩,fun j T2 hj=>?_⟩
 ·show (if m=s.length then 1 else col m)=0;rw [if_neg (by omega)];exact hm
 ·show (if M'.mp=s.length then 1 else col M'.mp)=0;rw [hmp,if_neg (by omega)];exact h.cmp
 ·rw [List.getElem?_set_ne]
  intro e2
  rcases hid id k n c e with e3 | ⟨k',n',c',e3⟩
  ·omega
  ·have:=(h.cl id k' n' c' e3).1;rw [←e2] at this;omega
 ·show (if id=s.length then 1 else col id)=1/\_
  refine ⟨?_,by rw [List.length_set];exact hid2 id k n c e⟩
  rcases hid id k n c e with e3 | ⟨k',n',c',e3⟩
  ·rw [if_pos e3]
  ·split
   ·rfl
   ·exact (h.cl id k' n' c' e3).1
 ·rw [hmp,keep _ hmpl (by rw [h.cmp];omega) hmpm];exact hk
 ·obtain ⟨g1,c2,r2,g2,g3,g4,g5,g6⟩:=h.tx j T2 hj
  have hb2:=ad9 g2.box
  have hq2:T2.q<s.length:=by obtain ⟨k,hk⟩:=g2.qt;exact ad9 hk
  refine ⟨g1,c2,r2,g2.low (keep _ hb2 (by omega) (fun e=>by rw [e] at g4;omega)) (keep _ hq2 (by omega) (fun e=>by rw [e] at g5;omega)) (keep _ g3 (by omega) (fun e=>by rw [e] at g6;omega)),by rw [List.length_set];omega,?_,?_,?_⟩
  ·show (if T2.b=s.length then 1 else col T2.b)=j+2;rw [if_neg (by omega)];exact g4
  ·show (if T2.q=s.length then 1 else col T2.q)=j+2;rw [if_neg (by omega)];exact g5
  ·show (if r2=s.length then 1 else col r2)=j+2;rw [if_neg (by omega)];exact g6
theorem ln_app {s:List O}{v:V}{ln:List Nat}(h:LnR s v ln)(hl:ln.length<=1000000)(b:Nat):∃v' s',apS 1 8 s (v,.no) (.list true 1 [vO b 0])=some (v',s')/\v'.good=true/\LnR s' v' (ln++[b])/\s.length<=s'.length/\(∀id k n c,v'=.slo id 0 k n c->(id=s.length∨∃k' n' c',v=.slo id 0 k' n' c')/\id<s'.length)/\∀j,j<s.length->(∀k n c,v≠.slo j 0 k n c)->s'[j]? =s[j]? :=by
 have hx:srcS (inS s) 1 (.list true 1 [vO b 0])=some [vO b 0]:=rfl
 rcases h with ⟨rfl,k,rfl⟩ | ⟨id,c,cs,rfl,h1,h2,h3,h4⟩
 ·refine ⟨.slo s.length 0 1 1 1,s++[.box [(vO b 0,false)]],rfl,rfl,.inr ⟨s.length,1,_,rfl,aT1 _ _,Nat.le_refl _,Nat.le_refl _,fun j x hj=>?_⟩,by simp,fun id k n c e=>?_,fun j hj _=>List.getElem?_append_left hj⟩
  ·cases j with
   | zero=>simp at hj;subst hj;rfl
   | succ j=>simp at hj
  ·injection e with e;subst e;exact ⟨.inl rfl,by simp⟩
 ·have hid:=ad9 h1
  unfold apS
  rw [hx]
  simp only [Option.bind_some,h1,show ((1:Nat)==1)=true from rfl,ck,cond_true,List.length_cons,List.length_nil,Nat.zero_add,Nat.mul_one]
  have hget:∀(X:List (V×Bool)),X.length=ln.length->(∀(j x:Nat),ln[j]? =some x->(X[j]?).map (·.1)=some (V.obj x 0))->∀(Y:List (V×Bool)) (j x:Nat),(ln++[b])[j]? =some x->((X++[(vO b 0,false)]++Y)[j]?).map (·.1)=some (V.obj x 0):=by
   intro X hX hh Y j x hj
   rw [List.append_assoc]
   by_cases hjl:j<ln.length
   ·rw [List.getElem?_append_left hjl] at hj
    rw [List.getElem?_append_left (by omega)]
    exact hh j x hj
   ·rw [List.getElem?_append_right (show ln.length<=j by omega)] at hj
    rw [List.getElem?_append_right (show X.length<=j by omega),hX]
    cases hz:j-ln.length with
    | zero=>rw [hz] at hj;simp at hj;subst hj;rfl
    | succ z=>rw [hz] at hj;simp at hj
  cases hr:(Nat.ble (ln.length+1) c&&Nat.ble (ln.length+1) cs.length) with
  | true=>
   simp only [cond_true]
   simp only [Bool.and_eq_true,Nat.ble_eq] at hr
   refine ⟨_,_,rfl,rfl,.inr ⟨id,c,_,by rw [List.length_append];rfl,ad5 h1,by simp;omega,?_,?_⟩,by simp,fun id' k n c e=>?_,fun j hj hne=>?_⟩
   ·refine Nat.le_trans ?_ (Nat.le_of_eq (aD8 (cs:=cs) (n:=ln.length) ?_).symm)
    ·simp;omega
    ·show ln.length+1<=cs.length;omega
   ·unfold ae3
    exact hget _ (by simp;omega) (fun j x hj=>by
     rw [List.getElem?_take,if_pos (ad9 hj)];exact h4 j x hj) _
   ·injection e with e;subst e;exact ⟨.inr ⟨_,_,_,rfl⟩,by simp;exact hid⟩
   ·rw [List.getElem?_set_ne (fun e=>hne _ _ _ (by rw [e]))]
  | false=>
   simp only [cond_false]
   have hb:((0:Nat)==0&&Nat.ble ln.length cs.length&&Nat.blt 0 1&&Nat.ble ((ln.length+1)*8) 140737488355328&&Nat.ble (ln.length+1) 140737488355328)=true:=by
    simp only [Bool.and_eq_true,Nat.ble_eq,beq_self_eq_true,true_and]
    refine ⟨⟨⟨h3,rfl⟩,by omega⟩,by omega⟩
   rw [hb]
   simp only [cond_true]
   have hch:∀(n:Nat) (l:List V),n<=l.length->chunks 1 n l=l.take n:=by
    intro n
    induction n with
    | zero=>intro l _;rfl
    | succ n ih=>
     intro l hl
     cases l with
     | nil=>simp at hl
     | cons x l=>
      show (x::chunks 1 n l)=x::l.take n
      rw [ih l (by simpa using hl)]
   have hcells:∀(l:List V),(∀x∈l,∃y,x=V.obj y 0)->(l.flatMap V.cells).map (fun c=>(c,nilB c))=l.map fun c=>(c,false):=by
    intro l hl
    induction l with
    | nil=>rfl
    | cons x l ih=>
     obtain ⟨y,rfl⟩:=hl x (List.mem_cons_self ..)
     show (V.obj y 0,nilB (V.obj y 0))::(l.flatMap V.cells).map (fun c=>(c,nilB c))=(V.obj y 0,false)::_
     rw [ih fun z hz=>hl z (List.mem_cons_of_mem _ hz)]
     rfl
   have htake:∀(j x:Nat),ln[j]? =some x->((cs.map (·.1)).take ln.length)[j]? =some (V.obj x 0):=by
    intro j x hj
    rw [List.getElem?_take,if_pos (ad9 hj),List.getElem?_map]
    exact h4 j x hj
   have hobj:∀x∈(cs.map (·.1)).take ln.length,∃y,x=V.obj y 0:=by
    intro x hxm
    obtain ⟨j,hj⟩:=List.getElem?_of_mem hxm
    have hjl:=ad9 hj
    rw [List.length_take,List.length_map] at hjl
    obtain ⟨y,hy⟩:=getL (l:=ln) (i:=j) (by omega)
    rw [htake j y hy] at hj
    injection hj with hj
    exact ⟨y,hj.symm⟩
   refine ⟨_,_,rfl,rfl,.inr ⟨s.length,ln.length+1,_,by rw [List.length_append];rfl,by rw [List.getElem?_append_right (by simp)];simp;rfl,by simp,?_,?_⟩,by simp,fun id' k n c e=>?_,fun j hj hne=>?_⟩
   ·rw [hch _ _ (by simpa using h3),hcells _ hobj]
    rw [List.length_append,List.length_append,List.length_map,List.length_take,List.length_map,Nat.min_eq_left h3]
    exact Nat.le_refl _
   ·rw [hch _ _ (by simpa using h3),hcells _ hobj]
    have:=hget (((cs.map (·.1)).take ln.length).map fun c=>(c,false)) (by simp;omega) (fun j x hj=>by
     rw [List.getElem?_map,htake j x hj];rfl) []
    simp only [List.append_nil] at this
    exact this
   ·injection e with e;subst e;exact ⟨.inl rfl,by simp⟩
   ·rw [List.getElem?_append_left (by simpa using hj),List.getElem?_set_ne (fun e=>hne _ _ _ (by rw [e]))]
end Go.Proofs.YtnpjififnhjbbaaDoor.E
set_option maxRecDepth 100000
namespace Go.Proofs.YtnpjififnhjbbaaDoor.E
open Go
def MgR (s:List O)(m mp:Nat)(nx:Int)(op:Bool)(lg:List By)(tx:List TX)(ln:List Nat):Prop:=∃M gv col,M.mp=mp/\M.nx=nx/\M.op=op/\MgC s m M gv col lg tx ln/\∀y∈ln,∃(j:Nat) (T:TX),tx[j]? =some T/\T.b=y
theorem live_box {s:List O}{i:Nat}{cs:List (V×Bool)}(h:s[i]? =some (.box cs)):at2 s i=true:=by unfold at2;rw [h]
theorem fnO_44 (b:Nat):fnO (.func (.func 44) [] [vR [vO b 0]]) b:=by
 refine ⟨fun s y K KP h1 h2=>?_,rfl⟩
 refine bj0 (g:=44) (by kernel_rfl) (s':=s) (v:=.bool (decide (b=y))) ?_ rfl
 apply au9.b_of
 unfold au9.b
 have hp:ptrB 15 s (vO y 0) (vO b 0)=some (decide (b=y)):=by
  show (bif Nat.beq 15 0 then none else bif Nat.beq y b then some ((0:Nat)==0) else bif at2 s y&&at2 s b then some false else none)=_
  rw [show Nat.beq 15 0=false from rfl,cond_false]
  by_cases e:b=y
  ·subst e;rw [show Nat.beq b b=true from Nat.beq_refl b,decide_eq_true rfl];rfl
  ·rw [show Nat.beq y b=false from by
    cases hh:Nat.beq y b with
    | false=>rfl
    | true=>exact absurd (Nat.eq_of_beq_eq_true hh).symm e,decide_eq_false e,h1,h2]
   rfl
 rw [ck_t (show V.good (vO b 0)=true from rfl),hp]
 rfl
def aq6 (T:TX)(ln:List Nat):List Nat:=if 6<=T.st/\T.que=[] then delN T.b ln else ln
theorem delN_mem {b y:Nat}{ln:List Nat}(h:y∈delN b ln):y∈ln:=(List.mem_filter.1 h).1
theorem bt6 {tx:List TX}{i:Nat}{T' T:TX}(hi:tx[i]? =some T)(hb:T'.b=T.b){y:Nat}(h:∃(j:Nat) (T2:TX),tx[j]? =some T2/\T2.b=y):∃(j:Nat) (T2:TX),(tx.set i T')[j]? =some T2/\T2.b=y:=by
 obtain ⟨j,T2,h1,h2⟩:=h
 by_cases e:i=j
 ·subst e
  rw [hi] at h1;injection h1 with h1;subst h1
  exact ⟨i,T',by rw [List.getElem?_set_self (ad9 hi)],hb.trans h2⟩
 ·exact ⟨j,T2,by rw [List.getElem?_set_ne e];exact h1,h2⟩
theorem ba0 {s:List O}{m mp:Nat}{nx:Int}{op:Bool}{lg:List By}{tx:List TX}{ln:List Nat}(h:MgR s m mp nx op lg tx ln){i:Nat}{T:TX}(hi:tx[i]? =some T){n:Nat}(hn:20<=n/\n<=20000)(hB:BT n T)(hw:∀x∈T.wat,x.size<=40)(hlg:lg.length<=90000)(hf:fin (setT 4 T))(hll:ln.length<=1000000):
  ∃s',RZ.R ac4 [vO m 0,vO T.b 0] s=some (.ret [] s')/\MgR s' m mp nx op (lg++setL 4 T) (tx.set i (setT 4 T)) (aq6 (setT 4 T) ln):=by
 obtain ⟨M,gv,col,e1,e2,e3,hc,hm⟩:=h
 obtain ⟨c,r,hp,hcb,hcq,hcr⟩:=hc.pt hi
 obtain ⟨s1,g1,g2⟩:=settle_loop hn 4 s lg gv c r T hp hB hw (by omega) hf
 have hb:=ba1 4 T
 have hnum:∀(f:Nat) (T:TX),(setT f T).num=T.num:=by
  intro f
  induction f with
  | zero=>intro T;rfl
  | succ f ih=>
   intro T
   unfold setT
   split
   ·split
    ·rw [ih];unfold aj1 cmtT;split<;>(try split)<;>rfl
    split
    ·rw [ih];unfold endT;split<;>rfl
    ·rfl
   ·rfl
 obtain ⟨gv1,col1,hc1⟩:=hc.step hi hp hcr g1 hb.1 hb.2 (hnum 4 T)
 have hi1:(tx.set i (setT 4 T))[i]? =some (setT 4 T):=by rw [List.getElem?_set_self (ad9 hi)]
 have hm1:∀y∈ln,∃(j:Nat) (T2:TX),(tx.set i (setT 4 T))[j]? =some T2/\T2.b=y:=fun y hy=>bt6 hi hb.1 (hm y hy)
 obtain ⟨c2,r2,hp2,_,_,_⟩:=hc1.pt hi1
 have J4:∀s,aa6.J4 RZ s=some (.ret [] s):=fun s=>aa6.aH9 s rfl
 obtain ⟨n9,a9,e9⟩:=hp2.tx.cr.h9.aL
 have hbx:s1[T.b]? =some (.box (boxC c2 (setT 4 T))):=by rw [←hb.1];exact hp2.box
 have run:∀o,aa6.J3 RZ m 0 T.b 0 (decide (6<=(setT 4 T).st/\(setT 4 T).que=[])) s1=some o->RZ.R ac4 [vO m 0,vO T.b 0] s=some o:=by
  intro o ho
  apply aa6.b_of
  unfold aa6.b
  refine g2 o ?_
  apply aa6.ak6
  unfold aa6.J1b
  simp only [Nat.reduceAdd,cond_false]
  rw [rdC4 hbx,aI_v]
  by_cases h6:6<=(setT 4 T).st
  ·rw [show decide ((setT 4 T).st>=6)=true from decide_eq_true h6,cond_true,rdC9 hbx,e9,aU4]
   rw [show (setT 4 T).que.isEmpty=decide (6<=(setT 4 T).st/\(setT 4 T).que=[]) from by
    rw [Bool.eq_iff_iff,List.isEmpty_iff,decide_eq_true_iff];exact ⟨fun h=>⟨h6,h⟩,fun h=>h.2⟩]
   exact ho
  ·rw [show decide ((setT 4 T).st>=6)=false from decide_eq_false h6,cond_false]
   rw [show decide (6<=(setT 4 T).st/\(setT 4 T).que=[])=false from decide_eq_false fun h=>h6 h.1] at ho
   exact ho
 by_cases hd:6<=(setT 4 T).st/\(setT 4 T).que=[]
 ·have el:aq6 (setT 4 T) ln=delN T.b ln:=by unfold aq6;rw [if_pos hd,hb.1]
  rw [el]
  have hlive:∀y∈ln,at2 s1 y=true:=by
   intro y hy
   obtain ⟨j,T2,h1,h2⟩:=hm1 y hy
   obtain ⟨_,c3,r3,h3,_⟩:=hc1.tx j T2 h1
   rw [←h2];exact live_box h3.box
  have hn2:(∃id c',M.lv=.slo id 0 1 ln.length c')∨ln=[]:=by
   rcases hc1.ln with ⟨h1,_⟩ | ⟨id,c',cs,h1,_⟩
   ·exact .inr h1
   ·exact .inl ⟨_,_,h1⟩
  obtain ⟨v,hv⟩:=PDel_is (fnO_44 T.b) (live_box hbx) hlive hc1.ln.pl hll hn2
  have fin2:∀(s2:List O) (v:V),RZ.R ae1 [M.lv,.func (.func 44) [] [vR [vO T.b 0]]] s1=some (.ret [v] s2)->s2[m]? =some (.box (boxM M gv1 true))->v.good=true->RZ.R ac4 [vO m 0,vO T.b 0] s=some (.ret [] (s2.set m (.box (boxM {M with lv:=v,lf:=nilB v} gv1 true)))):=by
   intro s2 v w hmb hg
   refine run _ ?_
   rw [decide_eq_true hd]
   apply aa6.aB4
   unfold aa6.J3b
   simp only [Nat.reduceAdd,cond_true]
   rw [rdM2 hc1.mb,ck_t (by simp only [List.all_cons,hc1.ln.pl.ad2];rfl),cS_v w,ck_t hg,wrM2 hmb]
   exact J4 _
  rcases hv with ⟨w1,w2,rfl,w4⟩ | ⟨id,c',cs,x1,x2,w1,w2⟩
  ·obtain ⟨col2,hc2⟩:=hc1.setM (s0:=s1) {M with lf:=nilB M.lv} rfl (Nat.le_refl _) (ln':=delN T.b ln) (by rw [w4];exact hc1.ln) (fun id k n c e=>.inr ⟨_,_,_,e⟩) (fun id k n c e=>(hc1.cl id k n c e).2) (fun j _ _=>rfl)
   exact ⟨_,fin2 s1 _ w1 hc1.mb hc1.ln.good,{M with lf:=nilB M.lv},_,_,e1,e2,e3,hc2,fun y hy=>hm1 y (delN_mem hy)⟩
  ·have hcl:=hc1.cl id 1 ln.length c' x1
   have hmid:id≠m:=fun e=>by have:=hc1.cm;rw [←e] at this;omega
   have hln2:LnR (s1.set id (.box cs)) v (delN T.b ln):=by
    rw [x2] at w2 ⊢
    rcases w2 with (⟨nn,e,_⟩ | ⟨_,k',e⟩) | ⟨id',c3,cs3,e,g⟩
    ·cases e
    ·cases e
    ·exact .inr ⟨id',c3,cs3,e,g⟩
   obtain ⟨col2,hc2⟩:=hc1.setM (s0:=s1.set id (.box cs)) {M with lv:=v,lf:=nilB v} rfl (by simp) (ln':=delN T.b ln) hln2 (fun id2 k n c e=>by
     have e:v=.slo id2 0 k n c:=e
     rw [x2] at e;injection e with e;subst e;exact .inr ⟨_,_,_,x1⟩) (fun id2 k n c e=>by
     have e:v=.slo id2 0 k n c:=e
     rw [x2] at e;injection e with e;subst e;simp;exact hcl.2) (fun j _ hne=>by
     rw [List.getElem?_set_ne (fun e=>hne _ _ _ (by rw [←e];exact x1))])
   exact ⟨_,fin2 _ v w1 (by rw [List.getElem?_set_ne hmid];exact hc1.mb) (by rw [x2];rfl),{M with lv:=v,lf:=nilB v},_,_,e1,e2,e3,hc2,fun y hy=>hm1 y (delN_mem hy)⟩
 ·have el:aq6 (setT 4 T) ln=ln:=by unfold aq6;rw [if_neg hd]
  rw [el]
  refine ⟨s1,run _ ?_,M,gv1,col1,e1,e2,e3,hc1,hm1⟩
  rw [decide_eq_false hd]
  exact aa6.aB4 _ _ _ _ _ _ (J4 s1)
theorem due_nil {s:List O}{m mp:Nat}{nx:Int}{op:Bool}{lg:List By}{tx:List TX}(h:MgR s m mp nx op lg tx []):RZ.R ap0 [vO m 0] s=some (.ret [.nilptr] s):=by
 obtain ⟨M,gv,col,e1,e2,e3,hc,hm⟩:=h
 apply ar7.b_of
 unfold ar7.b
 simp only [Nat.reduceAdd]
 rw [rdM2 hc.mb,hc.ln.pl.ln]
 rfl
theorem due_is {s:List O}{m mp:Nat}{nx:Int}{op:Bool}{lg:List By}{tx:List TX}{b:Nat}{ln:List Nat}(h:MgR s m mp nx op lg tx (b::ln)):RZ.R ap0 [vO m 0] s=some (.ret [vO b 0] s):=by
 obtain ⟨M,gv,col,e1,e2,e3,hc,hm⟩:=h
 obtain ⟨p,h1,h2,h3⟩:=hc.ln.pl.ix obj_f (i:=0) (x:=b) rfl
 apply ar7.b_of
 unfold ar7.b
 simp only [Nat.reduceAdd]
 rw [rdM2 hc.mb,hc.ln.pl.ln,Option.bind_some,show (((((b::ln).length:Nat):Int))==z0)=false from by rw [beq_eq_false_iff_ne];show (((b::ln).length:Nat):Int)≠0;simp only [List.length_cons];omega,cond_false,rdM2 hc.mb]
 rw [show ixV 1 M.lv z0=some p from h1,Option.bind_some,ck_t h2,h3]
 rfl
theorem Next_nil {s:List O}{m mp:Nat}{nx:Int}{op:Bool}{lg:List By}{tx:List TX}(h:MgR s m mp nx op lg tx []):RZ.R ae6 [vO m 0] s=some (.ret [vA [vI 0,vI 0,vS (⟨#[]⟩:By)],vI 8] s):=by
 apply aq1.b_of
 unfold aq1.b
 rw [cS_v (due_nil h)]
 rfl
theorem MgR.op {s:List O}{m mp:Nat}{nx:Int}{op:Bool}{lg:List By}{tx:List TX}{ln:List Nat}(h:MgR s m mp nx op lg tx ln)(op':Bool):∃s',(∀K:List O->R,wrO s m 3 [(vB op',false)] K=K s')/\MgR s' m mp nx op' lg tx ln/\∀j,j≠m->s'[j]? =s[j]? :=by
 obtain ⟨M,gv,col,e1,e2,e3,hc,hm⟩:=h
 obtain ⟨col2,hc2⟩:=hc.setM (s0:=s) {M with op:=op'} rfl (Nat.le_refl _) (ln':=ln) hc.ln (fun id k n c e=>.inr ⟨_,_,_,e⟩) (fun id k n c e=>(hc.cl id k n c e).2) (fun j _ _=>rfl)
 exact ⟨_,fun K=>wrM3 hc.mb op' K,⟨{M with op:=op'},_,_,e1,e2,rfl,hc2,hm⟩,fun j hj=>List.getElem?_set_ne fun e=>hj e.symm⟩
theorem idx_head {k:Int×By}{l:List (Int×By)}(K:V->R):idxK (as7 (k::l)) z0 K=K (kV k):=aK6 (i:=0) rfl K
theorem Next_is {s:List O}{m mp:Nat}{nx:Int}{op:Bool}{lg:List By}{tx:List TX}{b:Nat}{ln:List Nat}(h:MgR s m mp nx op lg tx (b::ln)){i:Nat}{T:TX}(hi:tx[i]? =some T)(hb:T.b=b){k:Int×By}{l:List (Int×By)}(hq:T.que=k::l):∃s',RZ.R ae6 [vO m 0] s=some (.ret [vA [vI T.num,vI k.1,vS k.2],vI 0] s')/\MgR s' m mp nx true lg tx (b::ln):=by
 obtain ⟨s',w,h',_⟩:=h.op true
 refine ⟨s',?_,h'⟩
 have hd:=due_is h
 obtain ⟨M,gv,col,e1,e2,e3,hc,hm⟩:=h'
 obtain ⟨c,r,hp,_⟩:=hc.pt hi
 obtain ⟨n9,a9,e9⟩:=hp.tx.cr.h9.aL
 have hbx:s'[b]? =some (.box (boxC c T)):=by rw [←hb];exact hp.box
 rw [hq] at e9
 apply aq1.b_of
 unfold aq1.b
 rw [cS_v hd]
 simp only [at0,cond_false,Nat.reduceAdd,w,aO_v,rdC2 hbx,aI_v,rdC9 hbx,e9,idx_head,V.cells,aC_v,aS_v,aN_v]
 rfl
end Go.Proofs.YtnpjififnhjbbaaDoor.E
