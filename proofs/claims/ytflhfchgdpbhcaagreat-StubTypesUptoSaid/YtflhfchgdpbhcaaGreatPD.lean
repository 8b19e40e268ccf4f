/- It is proved of copies, fields and the one answer of two ways to ask whether a type is valid what they answer at plain data. No condition beyond the lemmas' own. -/
import Derived.Test.YtflhfchgdpbhcaaGreatPC
set_option maxRecDepth 100000
namespace Go.Proofs.YtflhfchgdpbhcaaGreat.E
open Go
def AR (s:List O)(v:V)(A:List Ar):Prop:=(v=.list false 0 []/\A=[])∨∃id c cs,v=.slo id 0 3 A.length c/\s[id]? =some (.box cs)/\A.length*3<=cs.length/\cs.take (A.length*3)=(acs A).map (fun c=>(c,false))/\0<id
theorem AR.low {s s':List O}{v:V}{A:List Ar}(h:AR s v A)(hl:∀i,i<s.length->s'[i]? =s[i]?):AR s' v A:=by
 rcases h with h | ⟨id,c,cs,h1,h2,h3⟩
 ·exact .inl h
 ·exact .inr ⟨id,c,cs,h1,by rw [hl id (List.getElem?_eq_some_iff.1 h2).1];exact h2,h3⟩
theorem AR.ln {s:List O}{v:V}{A:List Ar}(h:AR s v A):lnV v=some (A.length:Int)/\v.good=true/\am0 v=true/\nlB 0 [(v,.no)]=true/\bg5 v=v:=by
 rcases h with ⟨rfl,rfl⟩ | ⟨id,c,cs,rfl,h2,h3⟩
 ·exact ⟨rfl,rfl,rfl,rfl,rfl⟩
 ·exact ⟨rfl,rfl,rfl,rfl,rfl⟩
theorem acs_at :∀{A:List Ar} {i:Nat} {a:Ar},A[i]? =some a->((acs A).drop (i*3)).take 3=[.str a.1,.int .i64 a.2.1,.bool a.2.2]
 | [],i,a,h=>by simp at h
 | x::r,0,a,h=>by
  simp at h
  subst h
  rfl
 | x::r,i+1,a,h=>by
  have:=acs_at (A:=r) (i:=i) (a:=a) (by simpa using h)
  rw [show (i+1)*3=i*3+1+1+1 by omega]
  exact this
theorem AR.at {s:List O}{v:V}{A:List Ar}(h:AR s v A){i:Nat}{a:Ar}(ha:A[i]? =some a):∃p,ixV 3 v (i:Int)=some p/\bn5 p=true/\∀K,ldA s p 3 K=K [.str a.1,.int .i64 a.2.1,.bool a.2.2]:=by
 have hi:=(List.getElem?_eq_some_iff.1 ha).1
 rcases h with ⟨rfl,rfl⟩ | ⟨id,c,cs,rfl,h2,h3,h4,h5⟩
 ·simp at ha
 ·refine ⟨.obj id (0+i*3),?_,rfl,fun K=>?_⟩
  ·show (if 3=3/\0<=(i:Int)/\(i:Int)<A.length then some (V.obj id (0+((i:Int)).toNat*3)) else none)=_
   rw [if_pos ⟨rfl,by omega,by omega⟩];rfl
  ·have hd:((cs.drop (0+i*3)).take 3).map (·.1)=[.str a.1,.int .i64 a.2.1,.bool a.2.2]:=by
    have e1:(cs.drop (0+i*3)).take 3=((cs.take (A.length*3)).drop (i*3)).take 3:=by
     rw [List.drop_take,List.take_take,Nat.zero_add]
     congr 1
     omega
    rw [e1,h4,←List.map_drop,←List.map_take,acs_at ha]
    rfl
   unfold ldA ldV
   simp only [h2,taken]
   rw [if_pos (by rw [List.length_drop];omega)]
   simp only [Option.map_some,hd]
   rfl
theorem CALLF_y {y:Nat}{args:List V}{s s':List O}{v:V}{K KP:V->List O->R}(hr:RZ.R (SIZE+y) args s=some (.ret [v] s'))(ha:args.all am0=true):aV9 RZ.R (.yld y) args s K KP=K v s':=by
 show aM4 Tryz.prog HH RZ.R (.yld y) args s K KP=_
 unfold aM4
 simp only [ck,ha,cond_true]
 rw [show RZ.R (Tryz.prog.funcs.size+y) args s=some (.ret [v] s') from hr]
 rfl
theorem take_rev {A:List Ar}{i:Nat}{a:Ar}(h:A[i]? =some a):(A.take (i+1)).reverse=a::(A.take i).reverse:=by
 rw [ah5 h,List.reverse_append]
 rfl
def LE (s s':List O)(id:ByteArray)(v:V):Option Bool->Prop
 | some b=>(∃q,LI s s' (lp2 id s.length v) q)/\s'[s.length]? =some (.box [(.bool b,false)])
 | none=>∃q,LI s s' (lp0 id s.length v) q
theorem bE8 {s:List O}{v w:V}(hw:nlB 0 [(w,.no)]=true){A:List Ar}{id:ByteArray}(hA:AR s v A)(hl:A.length<1000000):∀k,k<=A.length->∀q s',LI s s' (lp0 id s.length w) q ->
  ∃s'',aa7.L0 RZ (.yld (s.length+2)) v ((k:Int)-1) s'=some (.ret [] s'')/\LE s s'' id w (ldO id (A.take k).reverse q)
 | 0,_,q,s',h=>by
  refine ⟨s',?_,⟨q,by simpa [ldO] using h⟩⟩
  apply aa7.ag6
  unfold aa7.L0b
  rw [decide_eq_false (by omega),cond_false]
  rfl
 | k+1,hk,q,s',h=>by
  obtain ⟨a,ha⟩:=getL (l:=A) (i:=k) (by omega)
  have hA':=hA.low h.low
  obtain ⟨p,p1,p2,p3⟩:=hA'.at ha
  obtain ⟨s1,r1,r2⟩:=leads_round hw h (k:Int) a
  have step:∀s'',(bif (!(!decide (a.1=id))) then retR [] s1 else aa7.L0 RZ (.yld (s.length+2)) v ((k:Int)-1) s1)=some (.ret [] s'')->aa7.L0 RZ (.yld (s.length+2)) v (((k+1:Nat):Int)-1) s'=some (.ret [] s''):=by
   intro s'' e
   apply aa7.ag6
   unfold aa7.L0b
   rw [show ((k+1:Nat):Int)-1=(k:Int) by omega,decide_eq_true (by omega),cond_true,hA.ln.2.1,p1]
   simp -implicitDefEqProofs only [ck,cond_true,Option.bind_some,p2,p3,vA,aA_v,aC_v,aS_v,aI_v,aB_v,aN_v,vI,vS,vB]
   simp only [av] at r1
   rw [CALLF_y r1 rfl]
   simp -implicitDefEqProofs only [aB_v]
   rw [show w6 ((k:Int)-z1)=(k:Int)-1 from w6_i (x:=(k:Int)-1) (by omega)]
   exact e
  rw [take_rev ha]
  unfold ldO
  by_cases e:a.1=id
  ·rw [decide_eq_true e,cond_true] at r2
   rw [if_pos e]
   refine ⟨s1,step s1 (by rw [decide_eq_true e];rfl),⟨_,r2.1⟩,r2.2⟩
  ·rw [decide_eq_false e,cond_false] at r2
   rw [if_neg e]
   obtain ⟨s'',i1,i2⟩:=bE8 hw hA hl k (by omega) _ s1 r2
   exact ⟨s'',step s'' (by rw [decide_eq_false e];exact i1),i2⟩
theorem LI.init (s:List O)(r q:Bool)(lp:O):LI s (s++[O.box [(.bool r,false)]]++[O.box [(.bool q,false)]]++[lp]) lp q where
 len:=by simp
 low:=fun i hi=>by rw [List.append_assoc,List.append_assoc,List.getElem?_append_left hi]
 res:=⟨r,by rw [List.append_assoc,List.append_assoc,List.getElem?_append_right (Nat.le_refl _)];simp⟩
 seq:=by rw [List.append_assoc,List.append_assoc,List.getElem?_append_right (by omega)];simp
 lop:=by rw [List.append_assoc,List.append_assoc,List.getElem?_append_right (by omega)];simp
theorem leads_is {s:List O}{v:V}{A:List Ar}{id:ByteArray}{i o:Nat}{cs:List (V×Bool)}{fl:Bool}(hA:AR s v A)(hl:A.length<1000000)(hc:s[i]? =some (.box cs))(hv:cs[o+1]? =some (v,fl)):
  ∃s',RZ.R am2 [.obj i o,.str id] s=some (.ret [.bool (bh8 id A)] s')/\∀j,j<s.length->s'[j]? =s[j]? :=by
 obtain ⟨g1,g2,g3,g4,g5⟩:=hA.ln
 have hi:=(List.getElem?_eq_some_iff.1 hc).1
 have hlen:(s++[O.box [(V.bool false,false)]]).length=s.length+1:=by simp
 generalize hS':s++[O.box [(V.bool false,false)]]++[O.box [(V.bool false,false)]]=S
 have hS:S.length=s.length+2:=by subst hS';simp
 have hS1:S[s.length+1]? =some (.box [(.bool false,false)]):=by subst hS';rw [List.append_assoc,List.getElem?_append_right (by omega)];simp
 have hwr:∀K,wrO S (s.length+1) 0 [(V.bool false,false)] K=K S:=by
  intro K
  rw [aX1 hS1]
  congr 1
  exact set_self hS1
 have hS0:S[i]? =some (.box cs):=by
  subst hS'
  rw [List.append_assoc,List.getElem?_append_left hi,hc]
 have hB:RZ.R ag5 [v] S=some (.ret [.func (.func 101) [] [.ref [v]]] S):=by
  apply ah2.b_of
  unfold ah2.b
  simp only [g2,ck,cond_true,ac8,Bool.and_true,aq6]
 generalize hw:V.func (.func 101) [] [.ref [v]]=w at hB
 have hwl:nlB 0 [(w,.no)]=true:=by subst hw;rfl
 have hws:bg5 w=w:=by subst hw;rfl
 have hin:=LI.init s false false (lp0 id s.length w)
 rw [hS'] at hin
 obtain ⟨s1,e1,e2⟩:=bE8 (id:=id) hwl hA hl A.length (Nat.le_refl _) false _ hin
 rw [List.take_length] at e2
 have hR:RZ.R 101 ([]++[.yld S.length]++[.ref [v]]) (S++[.loop 77 [13,14] (LT id s.length w) 0 none])=some (.ret [] s1):=by
  rw [hS]
  apply aa7.b_of
  unfold aa7.b
  rw [g2,g1]
  simp only [ck,cond_true,Option.bind_some]
  rw [show w6 ((A.length:Int)-z1)=(A.length:Int)-1 from w6_i (x:=(A.length:Int)-1) (by omega)]
  exact e1
 have hrg:∀K KP,rgF RZ.R w S 77 [13,14] (LT id s.length w) K KP=lpK s1 (s.length+2) K:=by
  intro K KP
  subst hw
  show ck (HH.ok 101&&!(HH.own 101).headD false&&(([]:List V)++[V.ref [v]]).all am0) (rfK (RZ.R 101 ([]++[.yld S.length]++[.ref [v]]) (S++[.loop 77 [13,14] (LT id s.length _) 0 none])) S.length K KP)=_
  rw [hR,hS]
  rfl
 have main:∀o',(lpK s1 (s.length+2) fun s8 p=>jK p (wrO s8 s.length 0 [((vB false),false)] fun s9=>rd1 s9 s.length 0 fun v10=>retK [v10] s9) (rd1 s8 s.length 0 fun v11=>retK [v11] s8) (fun _=>none))=some o'->RZ.R am2 [.obj i o,.str id] s=some o':=by
  intro o' h
  apply ab6.b_of
  unfold ab6.b
  rw [hlen,hS',hwr,ax5 hS0 hv]
  simp only [List.all_cons,g3,List.all_nil,Bool.and_true,ck,cond_true]
  rw [cS_v hB,hws]
  exact (hrg _ _).trans h
 unfold bh8
 cases hld:ldO id A.reverse false with
 | none=>
  rw [hld] at e2
  obtain ⟨q,hq⟩:=e2
  have h1:=hq.setl .gone
  obtain ⟨r,hr⟩:=h1.res
  obtain ⟨h2,h3⟩:=h1.setr false
  refine ⟨_,main _ ?_,h2.low⟩
  unfold lpK
  rw [hq.lop]
  show (wrO (s1.set (s.length+2) .gone) s.length 0 [((vB false),false)] fun s9=>rd1 s9 s.length 0 fun v10=>retK [v10] s9)=_
  rw [aX1 hr,ax5 h3 (j:=0) rfl]
  rfl
 | some b=>
  rw [hld] at e2
  obtain ⟨⟨q,hq⟩,hb⟩:=e2
  have h1:=hq.setl .gone
  refine ⟨s1.set (s.length+2) .gone,main _ ?_,h1.low⟩
  unfold lpK
  rw [hq.lop]
  show (rd1 (s1.set (s.length+2) .gone) s.length 0 fun v11=>retK [v11] (s1.set (s.length+2) .gone))=_
  rw [ax5 (v:=.bool b) (f:=false) (j:=0) (cs:=[(.bool b,false)]) (by rw [List.getElem?_set_ne (by omega)];exact hb) rfl]
  rfl
end Go.Proofs.YtflhfchgdpbhcaaGreat.E
set_option maxRecDepth 100000
namespace Go.Proofs.YtflhfchgdpbhcaaGreat.E
open Go
theorem CALLF_p {g:Nat}(hx:(HH.ok g&&HH.pure g&&Nat.beq (nres Tryz.prog g) 1&&(HH.ext g).isNone)=true){a b args:List V}{s s':List O}{v:V}{K KP:V->List O->R}(hr:RZ.R g (a++args++b) []=some (.ret [v] s'))(ha:(a++args++b).all am0=true)(hn:aa0 (a++args++b)=true)(hv:ad1 v=true):aV9 RZ.R (.func (.func g) a b) args s K KP=K v s:=by
 simp only [Bool.and_eq_true] at hx
 obtain ⟨⟨⟨h1,h2⟩,h3⟩,h4⟩:=hx
 have h3:=Nat.eq_of_beq_eq_true h3
 show aM4 Tryz.prog HH RZ.R (.func (.func g) a b) args s K KP=_
 unfold aM4 aB8
 cases he:HH.ext g with
 | some e=>rw [he] at h4;cases h4
 | none=>
  simp only [ck,show (!(HH.own g).headD false)=true from rfl,cond_true,h1,ha,h2,hn,hr,h3]
  show ck (aa0 [v]) (aP0 1 [v] fun l=>K (one l) s)=_
  simp only [aa0,hv,Bool.and_true,ck,cond_true]
  rfl
theorem wr0 {s:List O}{x y z:V×Bool}(h:s[0]? =some (.box [x,y]))(K:List O->R):wrO s 0 (0+0) [z] K=K (s.set 0 (.box [z,y])):=by
 unfold wrO
 rw [h]
 rfl
theorem wr1 {s:List O}{x y z:V×Bool}(h:s[0]? =some (.box [x,y]))(K:List O->R):wrO s 0 (0+1) [z] K=K (s.set 0 (.box [x,z])):=by
 unfold wrO
 rw [h]
 rfl
theorem at0 {s:List O}{o x:O}(h:s[0]? =some x):(s.set 0 o)[0]? =some o:=by
 have:=(List.getElem?_eq_some_iff.1 h).1
 rw [List.getElem?_set_self this]
theorem AR.set0 {s:List O}{v:V}{A:List Ar}(h:AR s v A)(o:O):AR (s.set 0 o) v A:=by
 rcases h with h | ⟨id,c,cs,h1,h2,h3,h4,h5⟩
 ·exact .inl h
 ·exact .inr ⟨id,c,cs,h1,by rw [List.getElem?_set_ne (by omega)];exact h2,h3,h4,h5⟩
def Chk (s:List O)(p:Nat)(A:List Ar):Prop:=∃v,s[0]? =some (.box [(.int .i64 p,false),(v,nilB v)])/\AR s v A
theorem Chk.low {s s':List O}{p:Nat}{A:List Ar}(h:Chk s p A)(hl:∀i,i<s.length->s'[i]? =s[i]?):Chk s' p A:=by
 obtain ⟨v,h1,h2⟩:=h
 exact ⟨v,by rw [hl 0 (List.getElem?_eq_some_iff.1 h1).1];exact h1,h2.low hl⟩
theorem apC {s:List O}{v:V}{A:List Ar}(h:AR s v A)(h0:0<s.length)(hb:A.length<1000)(a:Ar):∃v' s',apS 3 32 s (v,.no) (.list true 3 [av a])=some (v',s')/\AR s' v' (A++[a])/\s'[0]? =s[0]? /\v'.good=true/\nilB v'=false:=by
 have hx:srcS (inS s) 3 (.list true 3 [av a])=some [av a]:=rfl
 rcases h with ⟨rfl,rfl⟩ | ⟨id,c,cs,rfl,h2,h3,h4,h5⟩
 ·refine ⟨.slo s.length 0 3 1 1,s++[.box (([av a].flatMap V.cells).map fun c=>(c,nilB c))],rfl,.inr ⟨s.length,1,(acs [a]).map fun c=>(c,false),rfl,bk9 _ _,?_,?_,h0⟩,?_,rfl,rfl⟩
  ·exact Nat.le_refl _
  ·rfl
  ·rw [List.getElem?_append_left h0]
 ·have hid:=(List.getElem?_eq_some_iff.1 h2).1
  unfold apS
  rw [hx]
  simp only [Option.bind_some,h2,show (3==3)=true from rfl,ck,cond_true,List.length_cons,List.length_nil,Nat.zero_add]
  cases hr:(Nat.ble (A.length+1) c&&Nat.ble ((A.length+1)*3) cs.length) with
  | true=>
   simp only [cond_true]
   have hr2:=(Bool.and_eq_true _ _▸hr).2
   have hr3:(A.length+1)*3<=cs.length:=by simpa using hr2
   have hsp:ag0 cs (A.length*3) (([av a].flatMap V.cells).map fun c=>(c,nilB c))=(acs (A++[a])).map (fun c=>(c,false))++cs.drop ((A.length+1)*3):=by
    unfold ag0
    rw [h4,acs_app,List.map_append]
    congr 1
    exact congrArg (fun x=>cs.drop x) (by show A.length*3+3=_;omega)
   refine ⟨_,_,rfl,.inr ⟨id,c,_,by rw [List.length_append];rfl,by rw [List.getElem?_set_self hid],?_,?_,h5⟩,?_,rfl,rfl⟩
   ·rw [hsp];simp only [List.length_append,List.length_map,aB1,List.length_singleton];omega
   ·rw [hsp,List.take_append_of_le_length (by rw [List.length_map,aB1];exact Nat.le_refl _),List.take_of_length_le (by rw [List.length_map,aB1];exact Nat.le_refl _)]
   ·rw [List.getElem?_set_ne (by omega)]
  | false=>
   simp only [cond_false,beq_self_eq_true,Bool.true_and]
   rw [Nat.ble_eq_true_of_le h3,Nat.ble_eq_true_of_le (show (A.length+1)*32<=140737488355328 by omega),Nat.ble_eq_true_of_le (show A.length+1<=140737488355328 by omega)]
   simp only [show Nat.blt 0 1=true from rfl,Bool.and_true,cond_true]
   have hch:chunks 3 A.length (cs.map (·.1))=avs A:=by
    have e1:∀(n:Nat) (l l':List V),l.take (n*3)=l'.take (n*3)->chunks 3 n l=chunks 3 n l':=by
     intro n
     induction n with
     | zero=>intro l l' _;rfl
     | succ n ih=>
      intro l l' e
      have t3:l.take 3=l'.take 3:=by
       have:=congrArg (List.take 3) e
       rw [List.take_take,List.take_take,Nat.min_eq_left (by omega)] at this
       exact this
      have d3:(l.drop 3).take (n*3)=(l'.drop 3).take (n*3):=by
       have:=congrArg (List.drop 3) e
       rw [List.drop_take,List.drop_take,show (n+1)*3-3=n*3 by omega] at this
       exact this
      show (bif (3==1) then _ else V.agg (l.take 3))::chunks 3 n (l.drop 3)=(bif (3==1) then _ else V.agg (l'.take 3))::chunks 3 n (l'.drop 3)
      rw [ih _ _ d3,t3]
      rfl
    rw [e1 A.length (cs.map (·.1)) (acs A) ?_,aT2]
    rw [←List.map_take,h4,List.map_map,List.take_of_length_le (by rw [aB1];omega)]
    exact List.map_id _
   have hfin:(((chunks 3 A.length (cs.map (·.1))++[av a]).flatMap V.cells).map fun c=>(c,nilB c))=(acs (A++[a])).map fun c=>(c,false):=by
    rw [hch]
    show ((avs A++avs [a]).flatMap V.cells).map _=_
    rw [show avs A++avs [a]=avs (A++[a]) by unfold avs;rw [List.map_append]]
    exact bs8 (A++[a])
   refine ⟨_,_,rfl,.inr ⟨s.length,A.length+1,(acs (A++[a])).map fun c=>(c,false),by rw [List.length_append];rfl,?_,?_,?_,h0⟩,?_,rfl,rfl⟩
   ·rw [hfin,List.getElem?_append_right (by simp)];simp
   ·rw [List.length_map,aB1,List.length_append];exact Nat.le_refl _
   ·rw [List.take_of_length_le];rw [List.length_map,aB1,List.length_append];exact Nat.le_refl _
   ·rw [List.getElem?_append_left (by rw [List.length_set];exact h0),List.getElem?_set_ne (by omega)]
theorem bx6 {s:List O}{p:Nat}{A:List Ar}{a:Ar}(h:Chk s p (A++[a]))(hb:A.length<1000):∃s',RZ.D none 52 [.ref [.obj 0 0]] s=some (.ret [] s')/\Chk s' p A:=by
 obtain ⟨v,h1,h2⟩:=h
 rcases h2 with ⟨rfl,h⟩ | ⟨id,c,cs,rfl,h2,h3,h4,h5⟩
 ·exact absurd h (by simp)
 ·have hn:(A++[a]).length=A.length+1:=by simp
  rw [hn] at h1 h3 h4
  have hd:RZ.D none 52 [.ref [.obj 0 0]] s=some (.ret [] (s.set 0 (.box [(.int .i64 p,false),(.slo id (0+0*3) 3 A.length c,false)]))):=by
   refine dbody_z (Z:=RZ) (m:=none) (by kernel_rfl) RZ_ok ((aw2.Db_eq RZ (.obj 0 0) s).trans ?_)
   unfold aw2.Db
   rw [show V.good (.obj 0 0)=true from rfl]
   simp only [ck,cond_true,show ∀i o K,aO (V.obj i o) K=K i o from fun _ _ _=>rfl]
   rw [ax5 h1 (j:=0+1) rfl,ax5 h1 (j:=0+1) rfl]
   have hw:w6 (((A.length+1:Nat):Int)-z1)=(A.length:Int):=bt5 (by omega)
   have hsl:slV 3 (.slo id 0 3 (A.length+1) c) none (some (vI (A.length:Int)))=some (.slo id (0+0*3) 3 A.length c):=by
    show (sloL id 0 3 (A.length+1) c none (some (.int .i64 (A.length:Int))) none).map (·.1)=_
    show (if (0:Int)<=0/\(0:Int)<=(A.length:Int)/\(A.length:Int)<=((A.length+1:Nat):Int)/\((0:Int)<(c:Int)∨(0:Int)=0) then some ((V.slo id (0+(0:Int).toNat*3) 3 ((A.length:Int).toNat-(0:Int).toNat) (c-(0:Int).toNat),Tag.no)) else none).map (·.1)=_
    rw [if_pos ⟨by omega,by omega,by omega,.inr rfl⟩]
    rfl
   show ((lnV (.slo id 0 3 (A.length+1) c)).bind _)=_
   simp only [lnV,Option.bind_some,hw,hsl,show V.good (.slo id (0+0*3) 3 A.length c)=true from rfl,cond_true,show nilB (.slo id (0+0*3) 3 A.length c)=false from rfl]
   rw [wr1 h1]
   rfl
  refine ⟨_,hd,.slo id 0 3 A.length c,?_,.inr ⟨id,c,cs,rfl,?_,by omega,?_,h5⟩⟩
  ·rw [at0 h1];rfl
  ·rw [List.getElem?_set_ne (by omega)];exact h2
  ·have:=congrArg (List.take (A.length*3)) h4
   rw [List.take_take,Nat.min_eq_left (by omega),acs_app,List.map_append,List.take_append_of_le_length (by rw [List.length_map,aB1];omega),List.take_of_length_le (l:=(acs A).map _) (by rw [List.length_map,aB1];omega)] at this
   exact this
end Go.Proofs.YtflhfchgdpbhcaaGreat.E
set_option maxRecDepth 100000
namespace Go.Proofs.YtflhfchgdpbhcaaGreat.E
open Go
def rOk (k:Int)(id nm:ByteArray)(n m:Int)(ns:List ByteArray)(ks:List Ty)(ls:List (Bool×List Int))(ch:List Pt)(A:List Ar):Bool:=
 if k=7 then decide (n>=0)&&decide (n<=1000) else if k=8 then decide (n>=1)&&(decide (n<=31)&&(decide (m>=0)&&decide (m<=n))) else if k=9 then (iddB id&&af2 nm)&&memB ns ns.length 1
 else if k=10 then (iddB id&&af2 nm)&&memB ns ks.length 1 else if k=15 then (iddB id&&af2 nm)&&memB ns ks.length 0
 else if k=11 then (iddB id&&af2 nm)&&(decide (0<ks.length)&&(memB ns ((ks.length-1:Nat):Int) 1&&laT ns n ls ks))
 else if k=12 then decide (n>=0)&&(decide (n<=1000)&&((ks.length:Int)==1)) else if k=13 then decide (n>=1)&&(decide (n<=1000)&&((ks.length:Int)==1))
 else if k=14 then (iddB id&&af2 nm)&&((ks.length:Int)==1) else if k=16 then iddB id&&af2 nm
 else if k=17 then af2 nm&&(memB ns ks.length 0&&aF2 ks.length id ch) else if k=20 then bh8 id A else true
theorem eS_e :eS ⟨#[]⟩=true:=by unfold eS;exact beq_self_eq_true _
noncomputable def fnB2 (g:Nat):Bool:=HH.ok g&&!HH.pure g&&Nat.beq (nres Tryz.prog g) 2&&(HH.ext g).isNone
section
variable {k:Int} {id nm:ByteArray} {n m:Int} {f1 f2 f3 f4:Bool} {ns:List ByteArray} {ks:List Ty} {ls:List (Bool×List Int)} {ch:List Pt} {lv:Int}
theorem noObjs_1 {v:V}(h:ad1 v=true):aa0 [v]=true:=by rw [aa0,h];rfl
theorem v_J0 {s s':List O}{g:Nat}{cap:List V}{k':Int}{id' nm':ByteArray}{n' m':Int}{g1 g2 g3 g4:Bool}{x1 x2 x3 x4:List V}{ok c:Bool}{o:Out}
  (hi:∀K,idxK RL k K=K (.func (.func g) [] cap)) (hk:k<21) (hx:fnB2 g=true) (hcap:cap.all am0=true)
  (hr:RZ.R g ([]++[.obj 0 0,.agg [.int .i64 k,.str id,.str nm,.int .i64 n,.int .i64 m,.list f1 1 (aa3 ns),.list f2 9 (tvs ks),.list f3 1 (lvs ls),.list f4 3 (cvs ch)]]++cap) s=some (.ret [.agg [.int .i64 k',.str id',.str nm',.int .i64 n',.int .i64 m',.list g1 1 x1,.list g2 9 x2,.list g3 1 x3,.list g4 3 x4],.bool ok] s'))
  (hno:ad1 (.agg [.int .i64 k',.str id',.str nm',.int .i64 n',.int .i64 m',.list g1 1 x1,.list g2 9 x2,.list g3 1 x3,.list g4 3 x4])=true)
  (hl:x1.length<=1000000/\x2.length<=1000000/\x3.length<=1000000/\x4.length<=1000000) (hc:noB id' nm' n' m' x1 x2 x3 x4=c)
  (h:aa2.J1 RZ lv 0 0 k id nm n m f1 (aa3 ns) f2 (tvs ks) f3 (lvs ls) f4 (cvs ch) (!(ok&&c)) s'=some o):
  aa2.J0 RZ lv 0 0 k id nm n m f1 (aa3 ns) f2 (tvs ks) f3 (lvs ls) f4 (cvs ch) false s=some o:=by
 have hn:=noObjs_1 hno
 have hno2:=bC0 (k:=k') (id:=id') (nm:=nm') (n:=n') (m:=m') (f1:=g1) (f2:=g2) (f3:=g3) (f4:=g4) hl.1 hl.2.1 hl.2.2.1 hl.2.2.2
 rw [hc] at hno2
 have hcall:=fun {K KP}=>CALLF_r2 (K:=K) (KP:=KP) hx hr (by rw [List.all_append,List.all_append,hcap];rfl)
 have hgood:ac8 [V.func (.func g) [] cap]=true:=rfl
 apply aa2.ad0
 unfold aa2.J0b
 simp only [RL,rF] at hi
 rw [cond_false,cS_v (rules_is s),cS_v (rules_is s)]
 simp -implicitDefEqProofs only [RL,rF,aA_v,aC_v,aN_v,decide_eq_true hk,ck,cond_true,hi,aA8,hgood,vO,hcall,show ∀l K,aT (V.tup l) K=K l from fun _ _=>rfl,aI_v,aS_v,aL_v,aB_v,hn,hno2,cP_B]
 have e:(bif !ok then aa2.J1 RZ lv 0 0 k id nm n m f1 (aa3 ns) f2 (tvs ks) f3 (lvs ls) f4 (cvs ch) true s' else aa2.J1 RZ lv 0 0 k id nm n m f1 (aa3 ns) f2 (tvs ks) f3 (lvs ls) f4 (cvs ch) (!c) s')=some o:=by
  rw [←h]
  cases ok<;>rfl
 exact allOf2 (allOf2 e e) e
def okB (k:Int)(id nm:ByteArray)(n m:Int)(ns:List ByteArray)(ks:List Ty)(ls:List (Bool×List Int))(ch:List Pt)(A:List Ar):Bool:=rOk k id nm n m ns ks ls ch A&&af4 k id nm n m (aa3 ns) (tvs ks) (lvs ls) (cvs ch)
theorem r76_is {s s':List O}{b:Bool}(h:RZ.R am2 [.obj 0 0,.str id] s=some (.ret [.bool b] s')):RZ.R 76 [.obj 0 0,.agg [.int .i64 k,.str id,.str nm,.int .i64 n,.int .i64 m,.list f1 1 (aa3 ns),.list f2 9 (tvs ks),.list f3 1 (lvs ls),.list f4 3 (cvs ch)]] s=some (.ret [.agg [.int .i64 k,.str ⟨#[]⟩,.str nm,.int .i64 n,.int .i64 m,.list f1 1 (aa3 ns),.list f2 9 (tvs ks),.list f3 1 (lvs ls),.list f4 3 (cvs ch)],.bool b] s'):=by
 apply aQ6.b_of
 unfold aQ6.b
 simp -implicitDefEqProofs only [vS,vO]
 rw [cS_v h]
 rfl
theorem v_rule {s:List O}{p:Nat}{A:List Ar}(hA:Chk s p A)(hAl:A.length<1000)(hid:sOk id)(hnm:sOk nm)(hn:lOk ns)(hch:cOk ch)(hls:∀l∈ls,l.2.length<4611686018427387904)(hl:ns.length<=1000000/\ks.length<=1000000/\ls.length<=1000000/\ch.length<=1000000)(h0:0<=k)(h20:k<=20):
  ∃s',(∀j,j<s.length->s'[j]? =s[j]?)/\∀o,aa2.J1 RZ lv 0 0 k id nm n m f1 (aa3 ns) f2 (tvs ks) f3 (lvs ls) f4 (cvs ch) (!(okB k id nm n m ns ks ls ch A)) s'=some o->aa2.J0 RZ lv 0 0 k id nm n m f1 (aa3 ns) f2 (tvs ks) f3 (lvs ls) f4 (cvs ch) false s=some o:=by
 have l1:(aa3 ns).length<=1000000:=by rw [ae8];omega
 have l2:(tvs ks).length<=1000000:=by rw [ad8];omega
 have l3:(lvs ls).length<=1000000:=by rw [aq7];omega
 have l4:(cvs ch).length<=1000000:=by rw [ay0];omega
 have l0:([]:List V).length<=1000000:=by simp
 have no:∀(k:Int) (id nm:ByteArray) (n m:Int) (g1:Bool) (y1:List ByteArray) (g2:Bool) (y2:List Ty) (g3:Bool) (y3:List (Bool×List Int)) (g4:Bool) (y4:List Pt),ad1 (.agg [.int .i64 k,.str id,.str nm,.int .i64 n,.int .i64 m,.list g1 1 (aa3 y1),.list g2 9 (tvs y2),.list g3 1 (lvs y3),.list g4 3 (cvs y4)])=true:=by
  intro k id nm n m g1 y1 g2 y2 g3 y3 g4 y4
  have:=ad6 (.mk k id nm n m g1 y1 g2 y2 g3 y3 g4 y4)
  rw [tv] at this
  exact this
 have hks:ks.length<4611686018427387904:=by omega
 have hls2:ls.length<4611686018427387904/\∀l∈ls,l.2.length<4611686018427387904:=⟨by omega,hls⟩
 rcases (by omega:k=0∨k=1∨k=2∨k=3∨k=4∨k=5∨k=6∨k=7∨k=8∨k=9∨k=10∨k=11∨k=12∨k=13∨k=14∨k=15∨k=16∨k=17∨k=18∨k=19∨k=20) with rfl | rfl | rfl | rfl | rfl | rfl | rfl | rfl | rfl | rfl | rfl | rfl | rfl | rfl | rfl | rfl | rfl | rfl | rfl | rfl | rfl
 ·exact ⟨s,fun _ _=>rfl,fun o h=>v_J0 (fun _=>rfl) (by omega) (by kernel_rfl) rfl (aU1 s) (no _ _ _ _ _ _ ns _ ks _ ls _ ch) ⟨l1,l2,l3,l4⟩ (c:=af4 0 id nm n m (aa3 ns) (tvs ks) (lvs ls) (cvs ch)) (by simp only [noB];kernel_rfl) (by unfold okB at h;rw [show rOk 0 id nm n m ns ks ls ch A=_ from rfl] at h;exact h)⟩
 ·exact ⟨s,fun _ _=>rfl,fun o h=>v_J0 (fun _=>rfl) (by omega) (by kernel_rfl) rfl (aU1 s) (no _ _ _ _ _ _ ns _ ks _ ls _ ch) ⟨l1,l2,l3,l4⟩ (c:=af4 1 id nm n m (aa3 ns) (tvs ks) (lvs ls) (cvs ch)) (by simp only [noB];kernel_rfl) (by unfold okB at h;rw [show rOk 1 id nm n m ns ks ls ch A=_ from rfl] at h;exact h)⟩
 ·exact ⟨s,fun _ _=>rfl,fun o h=>v_J0 (fun _=>rfl) (by omega) (by kernel_rfl) rfl (aU1 s) (no _ _ _ _ _ _ ns _ ks _ ls _ ch) ⟨l1,l2,l3,l4⟩ (c:=af4 2 id nm n m (aa3 ns) (tvs ks) (lvs ls) (cvs ch)) (by simp only [noB];kernel_rfl) (by unfold okB at h;rw [show rOk 2 id nm n m ns ks ls ch A=_ from rfl] at h;exact h)⟩
 ·exact ⟨s,fun _ _=>rfl,fun o h=>v_J0 (fun _=>rfl) (by omega) (by kernel_rfl) rfl (aU1 s) (no _ _ _ _ _ _ ns _ ks _ ls _ ch) ⟨l1,l2,l3,l4⟩ (c:=af4 3 id nm n m (aa3 ns) (tvs ks) (lvs ls) (cvs ch)) (by simp only [noB];kernel_rfl) (by unfold okB at h;rw [show rOk 3 id nm n m ns ks ls ch A=_ from rfl] at h;exact h)⟩
 ·exact ⟨s,fun _ _=>rfl,fun o h=>v_J0 (fun _=>rfl) (by omega) (by kernel_rfl) rfl (aU1 s) (no _ _ _ _ _ _ ns _ ks _ ls _ ch) ⟨l1,l2,l3,l4⟩ (c:=af4 4 id nm n m (aa3 ns) (tvs ks) (lvs ls) (cvs ch)) (by simp only [noB];kernel_rfl) (by unfold okB at h;rw [show rOk 4 id nm n m ns ks ls ch A=_ from rfl] at h;exact h)⟩
 ·exact ⟨s,fun _ _=>rfl,fun o h=>v_J0 (fun _=>rfl) (by omega) (by kernel_rfl) rfl (aU1 s) (no _ _ _ _ _ _ ns _ ks _ ls _ ch) ⟨l1,l2,l3,l4⟩ (c:=af4 5 id nm n m (aa3 ns) (tvs ks) (lvs ls) (cvs ch)) (by simp only [noB];kernel_rfl) (by unfold okB at h;rw [show rOk 5 id nm n m ns ks ls ch A=_ from rfl] at h;exact h)⟩
 ·exact ⟨s,fun _ _=>rfl,fun o h=>v_J0 (fun _=>rfl) (by omega) (by kernel_rfl) rfl (aU1 s) (no _ _ _ _ _ _ ns _ ks _ ls _ ch) ⟨l1,l2,l3,l4⟩ (c:=af4 6 id nm n m (aa3 ns) (tvs ks) (lvs ls) (cvs ch)) (by simp only [noB];kernel_rfl) (by unfold okB at h;rw [show rOk 6 id nm n m ns ks ls ch A=_ from rfl] at h;exact h)⟩
 ·exact ⟨s,fun _ _=>rfl,fun o h=>v_J0 (fun _=>rfl) (by omega) (by kernel_rfl) rfl (r65_is s) (no _ _ _ _ _ _ ns _ ks _ ls _ ch) ⟨l1,l2,l3,l4⟩ (c:=af4 7 id nm n m (aa3 ns) (tvs ks) (lvs ls) (cvs ch)) (by simp only [noB];kernel_rfl) (by unfold okB at h;rw [show rOk 7 id nm n m ns ks ls ch A=_ from rfl] at h;exact h)⟩
 ·exact ⟨s,fun _ _=>rfl,fun o h=>v_J0 (fun _=>rfl) (by omega) (by kernel_rfl) rfl (r66_is s) (no _ _ _ _ _ _ ns _ ks _ ls _ ch) ⟨l1,l2,l3,l4⟩ (c:=af4 8 id nm n m (aa3 ns) (tvs ks) (lvs ls) (cvs ch)) (by simp only [noB];kernel_rfl) (by unfold okB at h;rw [show rOk 8 id nm n m ns ks ls ch A=_ from rfl] at h;exact h)⟩
 ·exact ⟨s,fun _ _=>rfl,fun o h=>v_J0 (fun _=>rfl) (by omega) (by kernel_rfl) rfl (r67_is hid hnm hn s) (no _ _ _ _ _ _ [] _ ks _ ls _ ch) ⟨l0,l2,l3,l4⟩ (c:=af4 9 id nm n m (aa3 ns) (tvs ks) (lvs ls) (cvs ch)) (by simp only [noB,eS_e,Bool.true_and];kernel_rfl) (by unfold okB at h;rw [show rOk 9 id nm n m ns ks ls ch A=_ from rfl] at h;exact h)⟩
 ·exact ⟨s,fun _ _=>rfl,fun o h=>v_J0 (fun _=>rfl) (by omega) (by kernel_rfl) rfl (r62_is hid hnm hn 1 s) (no _ _ _ _ _ _ [] _ [] _ ls _ ch) ⟨l0,l0,l3,l4⟩ (c:=af4 10 id nm n m (aa3 ns) (tvs ks) (lvs ls) (cvs ch)) (by simp only [noB,eS_e,Bool.true_and];kernel_rfl) (by unfold okB at h;rw [show rOk 10 id nm n m ns ks ls ch A=_ from rfl] at h;exact h)⟩
 ·exact ⟨s,fun _ _=>rfl,fun o h=>v_J0 (fun _=>rfl) (by omega) (by kernel_rfl) rfl (r68_is hid hnm hn hks hls2 s) (no _ _ _ _ _ _ [] _ [] _ [] _ ch) ⟨l0,l0,l0,l4⟩ (c:=af4 11 id nm n m (aa3 ns) (tvs ks) (lvs ls) (cvs ch)) (by simp only [noB,eS_e,Bool.true_and];kernel_rfl) (by unfold okB at h;rw [show rOk 11 id nm n m ns ks ls ch A=_ from rfl] at h;exact h)⟩
 ·exact ⟨s,fun _ _=>rfl,fun o h=>v_J0 (fun _=>rfl) (by omega) (by kernel_rfl) rfl (r70_is s) (no _ _ _ _ _ _ ns _ [] _ ls _ ch) ⟨l1,l0,l3,l4⟩ (c:=af4 12 id nm n m (aa3 ns) (tvs ks) (lvs ls) (cvs ch)) (by simp only [noB];kernel_rfl) (by unfold okB at h;rw [show rOk 12 id nm n m ns ks ls ch A=_ from rfl] at h;exact h)⟩
 ·exact ⟨s,fun _ _=>rfl,fun o h=>v_J0 (fun _=>rfl) (by omega) (by kernel_rfl) rfl (r71_is s) (no _ _ _ _ _ _ ns _ [] _ ls _ ch) ⟨l1,l0,l3,l4⟩ (c:=af4 13 id nm n m (aa3 ns) (tvs ks) (lvs ls) (cvs ch)) (by simp only [noB];kernel_rfl) (by unfold okB at h;rw [show rOk 13 id nm n m ns ks ls ch A=_ from rfl] at h;exact h)⟩
 ·exact ⟨s,fun _ _=>rfl,fun o h=>v_J0 (fun _=>rfl) (by omega) (by kernel_rfl) rfl (r72_is hid hnm s) (no _ _ _ _ _ _ ns _ [] _ ls _ ch) ⟨l1,l0,l3,l4⟩ (c:=af4 14 id nm n m (aa3 ns) (tvs ks) (lvs ls) (cvs ch)) (by simp only [noB,eS_e,Bool.true_and];kernel_rfl) (by unfold okB at h;rw [show rOk 14 id nm n m ns ks ls ch A=_ from rfl] at h;exact h)⟩
 ·exact ⟨s,fun _ _=>rfl,fun o h=>v_J0 (fun _=>rfl) (by omega) (by kernel_rfl) rfl (r62_is hid hnm hn 0 s) (no _ _ _ _ _ _ [] _ [] _ ls _ ch) ⟨l0,l0,l3,l4⟩ (c:=af4 15 id nm n m (aa3 ns) (tvs ks) (lvs ls) (cvs ch)) (by simp only [noB,eS_e,Bool.true_and];kernel_rfl) (by unfold okB at h;rw [show rOk 15 id nm n m ns ks ls ch A=_ from rfl] at h;exact h)⟩
 ·exact ⟨s,fun _ _=>rfl,fun o h=>v_J0 (fun _=>rfl) (by omega) (by kernel_rfl) rfl (r73_is hid hnm s) (no _ _ _ _ _ _ ns _ ks _ ls _ ch) ⟨l1,l2,l3,l4⟩ (c:=af4 16 id nm n m (aa3 ns) (tvs ks) (lvs ls) (cvs ch)) (by simp only [noB,eS_e,Bool.true_and];kernel_rfl) (by unfold okB at h;rw [show rOk 16 id nm n m ns ks ls ch A=_ from rfl] at h;exact h)⟩
 ·exact ⟨s,fun _ _=>rfl,fun o h=>v_J0 (fun _=>rfl) (by omega) (by kernel_rfl) rfl (r74_is hnm hn hch hks s) (no _ _ _ _ _ _ [] _ [] _ ls _ []) ⟨l0,l0,l3,l0⟩ (c:=af4 17 id nm n m (aa3 ns) (tvs ks) (lvs ls) (cvs ch)) (by simp only [noB,eS_e,Bool.true_and];kernel_rfl) (by unfold okB at h;rw [show rOk 17 id nm n m ns ks ls ch A=_ from rfl] at h;exact h)⟩
 ·exact ⟨s,fun _ _=>rfl,fun o h=>v_J0 (fun _=>rfl) (by omega) (by kernel_rfl) rfl (aU1 s) (no _ _ _ _ _ _ ns _ ks _ ls _ ch) ⟨l1,l2,l3,l4⟩ (c:=af4 18 id nm n m (aa3 ns) (tvs ks) (lvs ls) (cvs ch)) (by simp only [noB];kernel_rfl) (by unfold okB at h;rw [show rOk 18 id nm n m ns ks ls ch A=_ from rfl] at h;exact h)⟩
 ·exact ⟨s,fun _ _=>rfl,fun o h=>v_J0 (fun _=>rfl) (by omega) (by kernel_rfl) rfl (aU1 s) (no _ _ _ _ _ _ ns _ ks _ ls _ ch) ⟨l1,l2,l3,l4⟩ (c:=af4 19 id nm n m (aa3 ns) (tvs ks) (lvs ls) (cvs ch)) (by simp only [noB];kernel_rfl) (by unfold okB at h;rw [show rOk 19 id nm n m ns ks ls ch A=_ from rfl] at h;exact h)⟩
 ·obtain ⟨v,c1,c2⟩:=hA
  obtain ⟨s',e1,e2⟩:=leads_is (id:=id) (i:=0) (o:=0) c2 (by omega) c1 rfl
  exact ⟨s',e2,fun o h=>v_J0 (fun _=>rfl) (by omega) (by kernel_rfl) rfl (r76_is e1) (no _ _ _ _ _ _ ns _ ks _ ls _ ch) ⟨l1,l2,l3,l4⟩ (c:=af4 20 id nm n m (aa3 ns) (tvs ks) (lvs ls) (cvs ch)) (by simp only [noB,eS_e,Bool.true_and];kernel_rfl) (by unfold okB at h;rw [show rOk 20 id nm n m ns ks ls ch A=_ from rfl] at h;exact h)⟩
end
end Go.Proofs.YtflhfchgdpbhcaaGreat.E
set_option maxRecDepth 100000
namespace Go.Proofs.YtflhfchgdpbhcaaGreat.E
open Go
def anyB (id:ByteArray)(A:List Ar):Bool:=A.any fun a=>decide (a.1=id)
def dupA (id:ByteArray)(k:Int)(A:List Ar):Bool:=!eS id&&(k !=20&&anyB id A)
def badB (k d:Int)(p:Nat):Bool:=decide (k<0)||(decide (k>20)||(decide (d>16)||(decide (300<p)||(decide (d>1)&&(k==0||k==15)))))
def inA (A:List Ar)(k:Int)(id:ByteArray):List Ar:=if k=20 then A else A++[(id,k,k==12)]
mutual
def kvT :Ty->List Ar->Int->Nat->Bool×Nat
 | .mk k id nm n m _ ns _ ks _ ls _ ch,A,d,p=>if badB k d (p+1)=true then (false,p+1) else if okB k id nm n m ns ks ls ch A=true then (if dupA id k A=true then (false,p+1) else kvL ks (inA A k id) (d+1) (p+1)) else (false,p+1)
def kvL :List Ty->List Ar->Int->Nat->Bool×Nat
 | [],_,_,p=>(true,p)
 | t::r,A,d,p=>if (kvT t A d p).1=true then kvL r A d (kvT t A d p).2 else (false,(kvT t A d p).2)
end
mutual
theorem kvT_le :∀(t:Ty) (A:List Ar) (d:Int) (p:Nat),(kvT t A d p).1=true->(kvT t A d p).2<=300
 | .mk k id nm n m _ ns _ ks _ ls _ ch,A,d,p=>by
  rw [kvT]
  split
  ·intro h;cases h
  ·rename_i hb
   split
   ·split
    ·intro h;cases h
    ·refine kvL_le ks _ _ _ ?_
     unfold badB at hb
     simp at hb
     omega
   ·intro h;cases h
theorem kvL_le :∀(l:List Ty) (A:List Ar) (d:Int) (p:Nat),p<=300->(kvL l A d p).1=true->(kvL l A d p).2<=300
 | [],A,d,p,h=>by rw [kvL];intro _;exact h
 | t::r,A,d,p,h=>by
  rw [kvL]
  split
  ·rename_i h1
   exact kvL_le r A d _ (kvT_le t A d p h1)
  ·intro h;cases h
end
section
variable {k:Int} {id nm:ByteArray} {n m:Int} {f1 f2 f3 f4:Bool} {ns:List ByteArray} {ks:List Ty} {ls:List (Bool×List Int)} {ch:List Pt} {lv:Int}
theorem valid1_is (a:Ar):RZ.R 51 ([]++[.agg [.str a.1,.int .i64 a.2.1,.bool a.2.2]]++[.ref [.int .i64 k,.str id,.str nm,.int .i64 n,.int .i64 m,.list f1 1 (aa3 ns),.list f2 9 (tvs ks),.list f3 1 (lvs ls),.list f4 3 (cvs ch)]]) []=some (.ret [.bool (decide (a.1=id))] []):=by
 apply aw3.b_of
 unfold aw3.b
 rw [strB]
 rfl
theorem con_loop {s:List O}{v:V}{A:List Ar}(hA:AR s v A)(hl:A.length<1000000):∀j i,i+j=A.length->∃r:Int,aa8.L0 RZ v (.func (.func 51) [] [.ref [.int .i64 k,.str id,.str nm,.int .i64 n,.int .i64 m,.list f1 1 (aa3 ns),.list f2 9 (tvs ks),.list f3 1 (lvs ls),.list f4 3 (cvs ch)]]) A.length i s=some (.ret [.int .i64 r] s)/\decide (r>=0)=anyB id (A.drop i)
 | 0,i,h=>by
  obtain rfl:i=A.length:=by omega
  refine ⟨-1,?_,by rw [List.drop_length];rfl⟩
  apply aa8.ag6
  unfold aa8.L0b
  rw [ad9,cond_false]
  rfl
 | j+1,i,h=>by
  obtain ⟨a,ha⟩:=getL (l:=A) (i:=i) (by omega)
  obtain ⟨q,p1,p2,p3⟩:=hA.at ha
  have hv1:=valid1_is (k:=k) (id:=id) (nm:=nm) (n:=n) (m:=m) (f1:=f1) (f2:=f2) (f3:=f3) (f4:=f4) (ns:=ns) (ks:=ks) (ls:=ls) (ch:=ch) a
  have hno:=ad6 (.mk k id nm n m f1 ns f2 ks f3 ls f4 ch)
  rw [tv] at hno
  have hn:aa0 ([]++[V.agg [.str a.1,.int .i64 a.2.1,.bool a.2.2]]++[.ref [.int .i64 k,.str id,.str nm,.int .i64 n,.int .i64 m,.list f1 1 (aa3 ns),.list f2 9 (tvs ks),.list f3 1 (lvs ls),.list f4 3 (cvs ch)]])=true:=by
   show (true&&(ad1 _&&_))=true
   rw [show ad1 (.ref [.int .i64 k,.str id,.str nm,.int .i64 n,.int .i64 m,.list f1 1 (aa3 ns),.list f2 9 (tvs ks),.list f3 1 (lvs ls),.list f4 3 (cvs ch)])=true from hno]
   rfl
  have hc:=fun {K KP}=>CALLF_p (s:=s) (K:=K) (KP:=KP) (by kernel_rfl) hv1 rfl hn rfl
  have step:∀r:Int,(bif decide (a.1=id) then retR [(.int .i64 i)] s else aa8.L0 RZ v (.func (.func 51) [] [.ref [.int .i64 k,.str id,.str nm,.int .i64 n,.int .i64 m,.list f1 1 (aa3 ns),.list f2 9 (tvs ks),.list f3 1 (lvs ls),.list f4 3 (cvs ch)]]) A.length ((i+1:Nat):Int) s)=some (.ret [.int .i64 r] s) ->
    aa8.L0 RZ v (.func (.func 51) [] [.ref [.int .i64 k,.str id,.str nm,.int .i64 n,.int .i64 m,.list f1 1 (aa3 ns),.list f2 9 (tvs ks),.list f3 1 (lvs ls),.list f4 3 (cvs ch)]]) A.length i s=some (.ret [.int .i64 r] s):=by
   intro r e
   apply aa8.ag6
   unfold aa8.L0b
   rw [af3 (by omega),cond_true,p1]
   simp -implicitDefEqProofs only [Option.bind_some,p2,ck,cond_true,p3,vA,vS,vI,vB,aA_v,aC_v,aS_v,aI_v,aB_v,aN_v]
   rw [hc]
   simp -implicitDefEqProofs only [aB_v]
   rw [w6_1 (show i<9223372036854775807 by omega)]
   exact e
  rw [am5 ha]
  unfold anyB
  rw [List.any_cons]
  by_cases e:a.1=id
  ·refine ⟨i,step _ (by rw [decide_eq_true e];rfl),?_⟩
   rw [decide_eq_true e,decide_eq_true (by omega)];rfl
  ·obtain ⟨r,i1,i2⟩:=con_loop hA hl j (i+1) (by omega)
   refine ⟨r,step _ (by rw [decide_eq_false e,cond_false];exact i1),?_⟩
   rw [decide_eq_false e,Bool.false_or]
   exact i2
theorem con_is {s:List O}{v:V}{A:List Ar}(hA:AR s v A)(hl:A.length<1000000):RZ.R af6 [v,.func (.func 51) [] [.ref [.int .i64 k,.str id,.str nm,.int .i64 n,.int .i64 m,.list f1 1 (aa3 ns),.list f2 9 (tvs ks),.list f3 1 (lvs ls),.list f4 3 (cvs ch)]]] s=some (.ret [.bool (anyB id A)] s):=by
 obtain ⟨r,i1,i2⟩:=con_loop (k:=k) (id:=id) (nm:=nm) (n:=n) (m:=m) (f1:=f1) (f2:=f2) (f3:=f3) (f4:=f4) (ns:=ns) (ks:=ks) (ls:=ls) (ch:=ch) hA hl A.length 0 (by omega)
 rw [List.drop_zero] at i2
 obtain ⟨g1,g2,g3,g4,g5⟩:=hA.ln
 have hin:RZ.R ag2 [v,.func (.func 51) [] [.ref [.int .i64 k,.str id,.str nm,.int .i64 n,.int .i64 m,.list f1 1 (aa3 ns),.list f2 9 (tvs ks),.list f3 1 (lvs ls),.list f4 3 (cvs ch)]]] s=some (.ret [.int .i64 r] s):=by
  apply aa8.b_of
  unfold aa8.b
  rw [g1]
  exact i1
 apply af7.b_of
 unfold af7.b
 simp only [List.all_cons,g3,List.all_nil,Bool.and_true,ck,show am0 (.func (.func 51) [] [.ref [.int .i64 k,.str id,.str nm,.int .i64 n,.int .i64 m,.list f1 1 (aa3 ns),.list f2 9 (tvs ks),.list f3 1 (lvs ls),.list f4 3 (cvs ch)]])=true from rfl,cond_true]
 rw [cS_v hin]
 simp -implicitDefEqProofs only [aI_v,i2,aq6,vB]
theorem v_J1 {s:List O}{p:Nat}{A:List Ar}(hA:Chk s p A)(hl:A.length<1000000){o:Out}(h:aa2.J2 RZ lv 0 0 k id nm n m f1 (aa3 ns) f2 (tvs ks) f3 (lvs ls) f4 (cvs ch) (dupA id k A) s=some o):
  aa2.J1 RZ lv 0 0 k id nm n m f1 (aa3 ns) f2 (tvs ks) f3 (lvs ls) f4 (cvs ch) false s=some o:=by
 obtain ⟨v,c1,c2⟩:=hA
 have hc:=con_is (k:=k) (id:=id) (nm:=nm) (n:=n) (m:=m) (f1:=f1) (f2:=f2) (f3:=f3) (f4:=f4) (ns:=ns) (ks:=ks) (ls:=ls) (ch:=ch) c2 hl
 have g3:=c2.ln.2.2.1
 apply aa2.an7
 unfold aa2.J1b
 rw [cond_false,ax5 c1 (j:=0+1) rfl]
 simp only [List.all_cons,g3,List.all_nil,Bool.and_true,ck,show am0 (.func (.func 51) [] [.ref [.int .i64 k,.str id,.str nm,.int .i64 n,.int .i64 m,.list f1 1 (aa3 ns),.list f2 9 (tvs ks),.list f3 1 (lvs ls),.list f4 3 (cvs ch)]])=true from rfl,cond_true]
 rw [cS_v hc,aB_v]
 rw [←h]
 unfold dupA eS
 cases (id.toList==(⟨#[]⟩:ByteArray).toList) with
 | true=>rfl
 | false=>
  cases (k !=20) with
  | true=>rw [Bool.not_false,cond_true,cond_true,Bool.true_and,Bool.true_and]
  | false=>rfl
def KV (t:Ty):Prop:=∀(A:List Ar) (d:Int) (p:Nat) (s:List O),Chk s p A->(A.length:Int)<d->d<1000->p<=300->∃s',RZ.R aj1 [.obj 0 0,tv t,.int .i64 d] s=some (.ret [.bool (kvT t A d p).1] s')/\Chk s' (kvT t A d p).2 A
theorem v_L4 (hR:∀t∈ks,KV t)(hl:ks.length<4611686018427387904){A:List Ar}{a:Ar}(hA:A.length<1000)(hA2:((A++[a]).length:Int)<lv+1)(hlv:lv<=16){f2:Bool}:∀(j i:Nat),i+j=ks.length->∀p s,Chk s p (A++[a])->p<=300 ->
  ∃s',aa2.L4 RZ lv 0 0 f2 (tvs ks) ks.length i s 0 0=some (.ret [.bool (kvL (ks.drop i) (A++[a]) (lv+1) p).1] s')/\Chk s' (kvL (ks.drop i) (A++[a]) (lv+1) p).2 A
 | 0,i,h,p,s,hc,hp=>by
  obtain rfl:i=ks.length:=by omega
  obtain ⟨s',d1,d2⟩:=bx6 hc hA
  rw [List.drop_length,kvL]
  refine ⟨s',?_,d2⟩
  apply aa2.aE4
  unfold aa2.L4b
  rw [ad9,cond_false]
  apply aa2.bF7
  unfold aa2.J8b
  rw [d1]
  rfl
 | j+1,i,h,p,s,hc,hp=>by
  obtain ⟨t,ht⟩:=getL (l:=ks) (i:=i) (by omega)
  obtain ⟨s1,r1,r2⟩:=hR t (List.mem_of_getElem? ht) (A++[a]) (lv+1) p s hc hA2 (by omega) hp
  rw [am5 ht,kvL]
  have hle:=kvT_le t (A++[a]) (lv+1) p
  have hw:w6 (lv+z1)=lv+1:=w6_i (x:=lv+1) (by omega)
  generalize hkv:kvT t (A++[a]) (lv+1) p=q at r1 r2 hle
  obtain ⟨q1,q2⟩:=q
  have step:∀s' b,(bif (!q1) then drK (RZ.D none 52 [(.ref [.obj 0 0])] s1) (fun s46=>retR [(vB false)] s46) else aa2.L4 RZ lv 0 0 f2 (tvs ks) ks.length ((i+1:Nat):Int) s1 0 0)=some (.ret [.bool b] s')->aa2.L4 RZ lv 0 0 f2 (tvs ks) ks.length i s 0 0=some (.ret [.bool b] s'):=by
   intro s' b e
   apply aa2.aE4
   unfold aa2.L4b
   rw [af3 (by omega),cond_true]
   apply aa2.aM6
   unfold aa2.J5b
   obtain ⟨k',id',nm',n',m',g1,ns',g2,ks',g3,ls',g4,ch'⟩:=t
   rw [tv] at r1
   simp -implicitDefEqProofs only [aE6 ht,tv,ah7,aC_v,aI_v,aS_v,aL_v,aN_v,vI,vO,vR,hw]
   rw [cS_v r1,aB_v]
   cases q1 with
   | false=>exact e
   | true=>
    simp only [Bool.not_true,cond_false] at e ⊢
    apply aa2.aV8
    unfold aa2.J6b
    apply aa2.J7_of
    unfold aa2.J7b
    rw [w6_1 (show i<9223372036854775807 by omega)]
    exact e
  cases q1 with
  | false=>
   obtain ⟨s',d1,d2⟩:=bx6 r2 hA
   refine ⟨s',step s' false (by rw [Bool.not_false,cond_true,d1];rfl),d2⟩
  | true=>
   obtain ⟨s',i1,i2⟩:=v_L4 hR hl hA hA2 hlv (f2:=f2) j (i+1) (by omega) q2 s1 r2 (hle rfl)
   exact ⟨s',step s' _ i1,i2⟩
theorem v_J2 (hR:∀t∈ks,KV t)(hl:ks.length<4611686018427387904){A:List Ar}{s:List O}{p:Nat}(hc:Chk s p A)(hA:A.length<1000)(hA2:(A.length:Int)<lv)(hlv:lv<=16)(hp:p<=300)(hk:k=20->ks=[]):
  ∃s',aa2.J2 RZ lv 0 0 k id nm n m f1 (aa3 ns) f2 (tvs ks) f3 (lvs ls) f4 (cvs ch) false s=some (.ret [.bool (kvL ks (inA A k id) (lv+1) p).1] s')/\Chk s' (kvL ks (inA A k id) (lv+1) p).2 A:=by
 unfold inA
 by_cases h20:k=20
 ·subst h20
  obtain rfl:=hk rfl
  rw [kvL]
  refine ⟨s,?_,hc⟩
  apply aa2.ak5
  unfold aa2.J2b
  rw [cond_false,show ((20:Int) !=20)=false from rfl,cond_false]
  apply aa2.J9_of
  unfold aa2.J9b
  apply aa2.L10_of
  unfold aa2.L10b
  rw [show decide (z0<(((tvs []).length:Nat):Int))=false from rfl,cond_false]
  exact aa2.J14_of _ rfl
 ·rw [if_neg h20]
  obtain ⟨v,c1,c2⟩:=hc
  obtain ⟨v',s1,a1,a2,a3,a4,a5⟩:=apC c2 (List.getElem?_eq_some_iff.1 c1).1 hA (id,k,k==12)
  rw [c1] at a3
  have hc2:Chk (s1.set 0 (.box [(.int .i64 p,false),(v',false)])) p (A++[(id,k,k==12)]):=⟨v',by rw [at0 a3,a5],a2.set0 _⟩
  obtain ⟨s',l1,l2⟩:=v_L4 (f2:=f2) hR hl (a:=(id,k,k==12)) hA (by rw [List.length_append];simp;omega) hlv ks.length 0 (by omega) p _ hc2 hp
  rw [List.drop_zero] at l1 l2
  refine ⟨s',?_,l2⟩
  apply aa2.ak5
  unfold aa2.J2b
  rw [cond_false,show (k !=20)=true from by simp [h20],cond_true,ax5 c1 (j:=0+1) rfl]
  simp only [av] at a1
  simp -implicitDefEqProofs only [vL,vA,vS,vI,vB,a1,Option.bind_some,a4,ck,cond_true,a5]
  rw [wr1 a3]
  apply aa2.aH9
  unfold aa2.J3b
  rw [ad8]
  exact l1
theorem v_hb {s s1:List O}{p:Nat}{v:V}{o:Out}(hp:p<=300)(c1:s[0]? =some (.box [(.int .i64 p,false),(v,nilB v)]))(hs1:s.set 0 (.box [(.int .i64 ((p+1:Nat):Int),false),(v,nilB v)])=s1)(hd1:s1[0]? =some (.box [(.int .i64 ((p+1:Nat):Int),false),(v,nilB v)]))(h:aa2.J0 RZ lv 0 0 k id nm n m f1 (aa3 ns) f2 (tvs ks) f3 (lvs ls) f4 (cvs ch) (badB k lv (p+1)) s1=some o):RZ.R aj1 [.obj 0 0,.agg [.int .i64 k,.str id,.str nm,.int .i64 n,.int .i64 m,.list f1 1 (aa3 ns),.list f2 9 (tvs ks),.list f3 1 (lvs ls),.list f4 3 (cvs ch)],.int .i64 lv] s=some o:=by
 apply aa2.b_of
 unfold aa2.b
 rw [ax5 c1 (j:=0+0) rfl,aI_v,w6_1 (show p<9223372036854775807 by omega),wr0 c1]
 simp -implicitDefEqProofs only [vI]
 rw [hs1,ax5 hd1 (j:=0+0) rfl,aI_v,←h]
 unfold badB
 rw [show decide ((((p+1:Nat):Int))>300)=decide (300<p+1) by by_cases h:300<p+1<;>simp [h]<;>omega,show (k==z0)=(k==0) from rfl]
 cases decide (k<0) with
 | true=>rw [cond_true,Bool.true_or]
 | false=>
  rw [cond_false,Bool.false_or]
  cases decide (k>20) with
  | true=>rw [cond_true,Bool.true_or]
  | false=>
   rw [cond_false,Bool.false_or]
   cases decide (lv>16) with
   | true=>rw [cond_true,Bool.true_or]
   | false=>
    rw [cond_false,Bool.false_or]
    cases decide (300<p+1) with
    | true=>rw [cond_true,Bool.true_or]
    | false=>
     rw [cond_false,Bool.false_or]
     cases decide (lv>1) with
     | false=>rw [cond_false,Bool.false_and]
     | true=>
      rw [cond_true,Bool.true_and]
      cases (k==0) with
      | true=>rw [cond_true,Bool.true_or]
      | false=>rw [cond_false,Bool.false_or]
theorem v_b {A:List Ar}{s:List O}{p:Nat}{a4:Bool}(hR:∀t∈ks,KV t)(hc:Chk s p A)(hA2:(A.length:Int)<lv)(hlv:lv<1000)(hp:p<=300)(hid:sOk id)(hnm:sOk nm)(hn:lOk ns)(hch:cOk ch)(hls:∀l∈ls,l.2.length<4611686018427387904)(hl:ns.length<=1000000/\ks.length<=1000000/\ls.length<=1000000/\ch.length<=1000000):
  ∃s',RZ.R aj1 [.obj 0 0,.agg [.int .i64 k,.str id,.str nm,.int .i64 n,.int .i64 m,.list f1 1 (aa3 ns),.list f2 9 (tvs ks),.list f3 1 (lvs ls),.list f4 3 (cvs ch)],.int .i64 lv] s=some (.ret [.bool (kvT (.mk k id nm n m f1 ns f2 ks f3 ls f4 ch) A lv p).1] s')/\Chk s' (kvT (.mk k id nm n m f1 ns f2 ks f3 ls f4 ch) A lv p).2 A:=by
 obtain ⟨v,c1,c2⟩:=hc
 have hc1:Chk (s.set 0 (.box [(.int .i64 ((p+1:Nat):Int),false),(v,nilB v)])) (p+1) A:=⟨v,at0 c1,c2.set0 _⟩
 generalize hs1:s.set 0 (.box [(.int .i64 ((p+1:Nat):Int),false),(v,nilB v)])=s1 at hc1
 have hd1:s1[0]? =some (.box [(.int .i64 ((p+1:Nat):Int),false),(v,nilB v)]):=by subst hs1;exact at0 c1
 have hb:=fun {o} h=>v_hb (k:=k) (id:=id) (nm:=nm) (n:=n) (m:=m) (f1:=f1) (f2:=f2) (f3:=f3) (f4:=f4) (ns:=ns) (ks:=ks) (ls:=ls) (ch:=ch) (lv:=lv) (o:=o) hp c1 hs1 hd1 h
 rw [kvT]
 by_cases hbad:badB k lv (p+1)=true
 ·rw [if_pos hbad]
  refine ⟨s1,hb ?_,hc1⟩
  rw [hbad]
  apply aa2.ad0
  unfold aa2.J0b
  rw [cond_true]
  rfl
 rw [if_neg hbad]
 have hbad':badB k lv (p+1)=false:=by simpa using hbad
 have hr:0<=k/\k<=20/\lv<=16/\p+1<=300:=by
  unfold badB at hbad'
  simp at hbad'
  omega
 obtain ⟨s2,r1,r2⟩:=v_rule (lv:=lv) (f1:=f1) (f2:=f2) (f3:=f3) (f4:=f4) (n:=n) (m:=m) hc1 (by omega) hid hnm hn hch hls hl hr.1 hr.2.1
 have hc2:=hc1.low r1
 have hb2:=fun {o} h=>hb (o:=o) (by rw [hbad'];exact r2 o h)
 cases hok:okB k id nm n m ns ks ls ch A with
 | false=>
  rw [if_neg (by simp)]
  refine ⟨s2,hb2 ?_,hc2⟩
  rw [hok,Bool.not_false]
  apply aa2.an7
  unfold aa2.J1b
  rw [cond_true]
  rfl
 | true=>
  rw [if_pos rfl]
  have hk20:k=20->ks=[]:=by
   intro e
   subst e
   unfold okB at hok
   have hcl:=(Bool.and_eq_true _ _▸hok).2
   have:af4 20 id nm n m (aa3 ns) (tvs ks) (lvs ls) (cvs ch)=(eS nm&&((n==0)&&((m==0)&&(eL (aa3 ns)&&(eL (tvs ks)&&(eL (lvs ls)&&eL (cvs ch))))))):=by kernel_rfl
   rw [this] at hcl
   simp only [Bool.and_eq_true] at hcl
   have:=hcl.2.2.2.2.1
   unfold eL at this
   rw [ad8,beq_iff_eq] at this
   exact List.length_eq_zero_iff.1 (by omega)
  cases hdup:dupA id k A with
  | true=>
   rw [if_pos rfl]
   refine ⟨s2,hb2 ?_,hc2⟩
   rw [hok,Bool.not_true]
   refine v_J1 hc2 (by omega) ?_
   rw [hdup]
   apply aa2.ak5
   unfold aa2.J2b
   rw [cond_true]
   rfl
  | false=>
   rw [if_neg (by simp)]
   obtain ⟨s',j1,j2⟩:=v_J2 (k:=k) (id:=id) (nm:=nm) (n:=n) (m:=m) (f1:=f1) (f2:=f2) (f3:=f3) (f4:=f4) (ns:=ns) (ls:=ls) (ch:=ch) hR (by omega) hc2 (by omega) hA2 hr.2.2.1 hr.2.2.2 hk20
   refine ⟨s',hb2 ?_,j2⟩
   rw [hok,Bool.not_true]
   refine v_J1 hc2 (by omega) ?_
   rw [hdup]
   exact j1
end
mutual
theorem bB8 :∀t:Ty,tOk t->liOk t->KV t
 | .mk k id nm n m f1 ns f2 ks f3 ls f4 ch,ht,hf=>by
  obtain ⟨hid,hnm,hn,hls,hch,hl,hks⟩:=ht
  obtain ⟨l1,l2,l3,l4,hfs⟩:=hf
  have hR:=bu8 ks hks hfs
  intro A d p s hc hA hd hp
  rw [tv]
  exact v_b (a4:=true) hR hc hA hd hp hid hnm hn hch hls.2 ⟨l1,l2,l3,l4⟩
theorem bu8 :∀ks:List Ty,tsOk ks->lisOk ks->∀t∈ks,KV t
 | [],_,_,t,h=>by simp at h
 | a::r,ho,hf,t,h=>by
  have h1:=bB8 a ho.1 hf.1
  rcases List.mem_cons.1 h with e | h
  ·rw [e];exact h1
  ·exact bu8 r ho.2 hf.2 t h
end
def kVB (t:Ty):Bool:=(kvT t [] 1 0).1
theorem kind_Valid_is {t:Ty}(ht:tOk t)(hf:liOk t):∃s',RZ.R av1 [tv t] []=some (.ret [.bool (kVB t)] s'):=by
 obtain ⟨s',h1,h2⟩:=bB8 t ht hf [] 1 0 [O.box [(.int .i64 0,false),(.list false 0 [],true)]] ⟨.list false 0 [],rfl,.inl ⟨rfl,rfl⟩⟩ (by simp) (by omega) (by omega)
 refine ⟨s',?_⟩
 unfold kVB
 obtain ⟨k',id',nm',n',m',g1,ns',g2,ks',g3,ls',g4,ch'⟩:=t
 rw [tv] at h1 ⊢
 apply bc1.b_of
 unfold bc1.b
 simp only [vO,vI,vL]
 rw [cS_v h1]
 rfl
end Go.Proofs.YtflhfchgdpbhcaaGreat.E
set_option maxRecDepth 100000
namespace Go.Proofs.YtflhfchgdpbhcaaGreat.E
open Go
def sq :List Ar->List Ar
 | []=>[]
 | a::r=>(a.1,a.2.1,a.2.2||r.any (·.2.2))::sq r
theorem bC2 {id:ByteArray}(h:iddB id=true):eS id=false:=by
 unfold iddB at h
 simp only [Bool.and_eq_true,decide_eq_true_eq] at h
 unfold eS
 rw [toList_empty]
 exact beq_eq_false_iff_ne.2 (by omega)
theorem any_sq (id:ByteArray):∀A,anyB id A= !aG6 id (sq A)
 | []=>rfl
 | a::r=>by
  have ih:=any_sq id r
  unfold anyB aG6 at ih ⊢
  rw [sq,List.any_cons,List.all_cons,ih]
  cases decide (a.1=id)<;>simp
theorem chF_at (l:List Pt):∀(k i:Nat),i+k=l.length->chF l k i=true->∀j p,i<=j->l[j]? =some p->iddB p.1=true
 | 0,i,h,_,j,p,hj,hp=>by have:=(List.getElem?_eq_some_iff.1 hp).1;omega
 | k+1,i,h,hc,j,p,hj,hp=>by
  obtain ⟨q,hq⟩:=getL (l:=l) (i:=i) (by omega)
  rw [chF,hq] at hc
  simp only [Bool.and_eq_true] at hc
  by_cases e:i=j
  ·subst e
   rw [hq] at hp
   simp at hp
   subst hp
   exact hc.1.1.1.1
  ·exact chF_at l k (i+1) (by omega) hc.2 j p (by omega) hp
theorem chain_id {kl:Nat}{id:ByteArray}{l:List Pt}(h:aF2 kl id l=true):iddB id=true:=by
 unfold aF2 at h
 simp only [Bool.and_eq_true] at h
 obtain ⟨⟨⟨⟨h1,h2⟩,h3⟩,h4⟩,h5⟩:=h
 simp only [decide_eq_true_eq] at h1
 obtain ⟨p,hp⟩:=getL (l:=l) (i:=l.length-1) (by omega)
 rw [hp] at h4
 simp only [Bool.and_eq_true,decide_eq_true_eq] at h4
 rw [←h4.2]
 exact chF_at l l.length 0 (by omega) h5 _ p (by omega) hp
def AOk :List Ar->Prop
 | []=>True
 | a::r=>AOk r/\((eS a.1=true->a.2.1≠17/\a.2.1≠10/\a.2.1≠11)/\(eS a.1=false->anyB a.1 r=false))
theorem eS_iff (s:ByteArray):eS s=true↔s=⟨#[]⟩:=by
 unfold eS
 rw [strB,decide_eq_true_eq]
theorem anyB_app (id:ByteArray)(A B:List Ar):anyB id (A++B)=(anyB id A||anyB id B):=by unfold anyB;rw [List.any_append]
theorem bt4 :∀{A:List Ar} {x:Ar},AOk (A++[x])↔(AOk A/\(eS x.1=true->x.2.1≠17/\x.2.1≠10/\x.2.1≠11)/\(eS x.1=false->anyB x.1 A=false))
 | [],x=>by simp [AOk,anyB]
 | a::r,x=>by
  rw [List.cons_append,AOk,AOk,bt4 (A:=r)]
  have e:anyB a.1 (r++[x])=(anyB a.1 r||decide (x.1=a.1)):=by rw [anyB_app];simp [anyB]
  have e2:anyB x.1 (a::r)=(decide (a.1=x.1)||anyB x.1 r):=by simp [anyB]
  rw [e,e2]
  constructor
  ·rintro ⟨⟨h1,h2,h3⟩,h4,h5⟩
   refine ⟨⟨h1,h4,fun he=>(Bool.or_eq_false_iff.1 (h5 he)).1⟩,h2,fun he=>?_⟩
   rw [h3 he,Bool.or_false]
   by_cases ex:a.1=x.1
   ·rw [ex] at h5
    have:=(Bool.or_eq_false_iff.1 (h5 he)).2
    simp at this
   ·exact decide_eq_false ex
  ·rintro ⟨⟨h1,h4,h5⟩,h2,h3⟩
   refine ⟨⟨h1,h2,fun he=>(Bool.or_eq_false_iff.1 (h3 he)).2⟩,h4,fun he=>?_⟩
   rw [h5 he,Bool.false_or]
   by_cases ex:x.1=a.1
   ·rw [←ex] at he
    have:=(Bool.or_eq_false_iff.1 (h3 he)).1
    rw [ex] at this
    simp at this
   ·exact decide_eq_false ex
def sqb (q:Bool):List Ar->List Ar
 | []=>[]
 | a::r=>(a.1,a.2.1,a.2.2||(r.any (·.2.2)||q))::sqb q r
theorem sqb_f :∀A,sqb false A=sq A
 | []=>rfl
 | a::r=>by rw [sqb,sq,sqb_f r,Bool.or_false]
theorem bq6 (q:Bool)(x:Ar):∀A,sqb q (A++[x])=sqb (x.2.2||q) A++[(x.1,x.2.1,x.2.2||q)]
 | []=>by simp [sqb]
 | a::r=>by
  rw [List.cons_append,sqb,bq6 q x r,sqb,List.any_append]
  simp [Bool.or_assoc]
theorem okb_none {id:ByteArray}(q:Bool):∀{A:List Ar},(eS id=true->AOk A)->(eS id=false->anyB id A=false)->(sqb q A).any (okA id)=false
 | [],_,_=>rfl
 | a::r,h1,h2=>by
  rw [sqb,List.any_cons,okb_none q (A:=r) (fun e=>(h1 e).1) (fun e=>by
   have:=h2 e
   unfold anyB at this ⊢
   rw [List.any_cons,Bool.or_eq_false_iff] at this
   exact this.2),Bool.or_false]
  unfold okA
  cases he:eS id with
  | false=>
   have:=h2 he
   unfold anyB at this
   rw [List.any_cons,Bool.or_eq_false_iff] at this
   rw [this.1];rfl
  | true=>
   by_cases e:a.1=id
   ·have:=(h1 he).2.1 (by rw [e];exact he)
    rw [beq_eq_false_iff_ne.2 this.1,beq_eq_false_iff_ne.2 this.2.1,beq_eq_false_iff_ne.2 this.2.2]
    simp
   ·rw [decide_eq_false e];rfl
theorem ldO_any (id:ByteArray):∀(B:List Ar) (q:Bool),AOk B.reverse->(ldO id B q).getD false=(sqb q B.reverse).any (okA id)
 | [],q,_=>rfl
 | a::r,q,h=>by
  rw [List.reverse_cons] at h ⊢
  rw [bt4] at h
  rw [bq6,List.any_append,ldO]
  by_cases e:a.1=id
  ·rw [if_pos e,okb_none _ (fun _=>h.1) (fun he=>by rw [←e] at he ⊢;exact h.2.2 he)]
   simp only [Option.getD_some,Bool.false_or,List.any_cons,List.any_nil,Bool.or_false]
   unfold okA
   rw [decide_eq_true e]
   cases (a.2.1==17)<;>cases (a.2.1==10)<;>cases (a.2.1==11)<;>cases a.2.2<;>cases q<;>rfl
  ·rw [if_neg e,Bool.or_comm q,ldO_any id r _ h.1]
   simp only [List.any_cons,List.any_nil,Bool.or_false]
   unfold okA
   rw [decide_eq_false e]
   simp
theorem leads_any {id:ByteArray}{A:List Ar}(h:AOk A):bh8 id A=(sq A).any (okA id):=by
 unfold bh8
 rw [ldO_any id A.reverse false (by rw [List.reverse_reverse];exact h),List.reverse_reverse,sqb_f]
theorem lab_un {tk:Int}{tn kl:Nat}{n:Int}{ns:List ByteArray}{ls:List (Bool×List Int)}{vt:Bool}:unB tk tn kl vt ns n ls=((memB ns kl 1&&labB tk tn ns.length n ls)&&vt):=by
 have h:=ouL_spec (fitB tk tn) n ls ls.length 0 (by omega)
 rw [List.drop_zero,List.take_zero,show (flat ([]:List (Bool×List Int)))=[] from rfl,List.length_nil,Nat.sub_zero] at h
 unfold unB labB memB
 rw [h]
 cases hE:(empF n ls ls.length 0&&labF (fitB tk tn) (flat ls) (flat ls).length 0) with
 | false=>
  rw [if_neg (by simp),show (empF n ls ls.length 0&&(labF (fitB tk tn) (flat ls) (flat ls).length 0&&aZ3 tk tn n (flat ls).length))=false by rw [←Bool.and_assoc,hE];rfl]
  simp
 | true=>
  rw [if_pos rfl,show (empF n ls ls.length 0&&(labF (fitB tk tn) (flat ls) (flat ls).length 0&&aZ3 tk tn n (flat ls).length))=aZ3 tk tn n (flat ls).length by rw [←Bool.and_assoc,hE];rfl]
  simp only [Option.map_some,Option.getD_some]
  unfold endL aZ3
  generalize (decide (1<=tk/\tk<=5)||tk==9)=T
  generalize (decide (tk=1/\(flat ls).length=2)||decide (tk=9/\(flat ls).length=tn))=F
  generalize nmsB ns=N
  by_cases hk:ns.length=kl
  ·subst hk
   rw [show ((ns.length:Int)==(ns.length:Int))=true by simp]
   rw [Bool.eq_iff_iff]
   cases T<;>cases F<;>cases N<;>cases vt<;>simp<;>omega
  ·rw [show ((ns.length:Int)==(kl:Int))=false by simp;omega]
   simp
def U (ns:List ByteArray)(n:Int)(ls:List (Bool×List Int))(ks:List Ty):Bool:=decide (0<ks.length)&&(memB ns ((ks.length-1:Nat):Int) 1&&laT ns n ls ks)
theorem unT_U {vt:Bool}{ns:List ByteArray}{n:Int}{ls:List (Bool×List Int)}:∀{ks:List Ty},unT vt ns n ls ks=(U ns n ls ks&&vt)
 | []=>by simp [unT,U]
 | .mk tk _ _ _ _ _ tns _ _ _ _ _ _::r=>by
  rw [unT,lab_un]
  unfold U laT
  rw [List.length_cons,Nat.add_sub_cancel,decide_eq_true (show 0<r.length+1 by omega),Bool.true_and]
end Go.Proofs.YtflhfchgdpbhcaaGreat.E
set_option maxRecDepth 100000
namespace Go.Proofs.YtflhfchgdpbhcaaGreat.E
open Go
section
variable {id nm:ByteArray} {n m:Int} {ns:List ByteArray} {ks:List Ty} {ls:List (Bool×List Int)} {ch:List Pt} {A:List Ar}
theorem aB7 {I N e a X Y:Bool}(hI:I=true->e=false)(hX:X=Y):(((I&&N)&&X)&&!(!e&&a))=(N&&((I&&!a)&&Y)):=by
 subst hX
 cases I with
 | false=>cases N<;>cases X<;>rfl
 | true=>rw [hI rfl];cases N<;>cases a<;>cases X<;>rfl
theorem an2 {e a X Y:Bool}(he:e=true)(hX:X=Y):(X&&!(!e&&a))=Y:=by
 subst hX;subst he
 cases X<;>rfl
theorem bA9 {least:Int}{k:Nat}:memB ns k least=(decide (least<=k)&&decide (k<=24)&&((ns.length:Int)==(k:Int)&&nmsB ns)):=by
 unfold memB
 rw [show decide ((k:Int)<=24)=decide (k<=24) by by_cases h:k<=24<;>simp [h]<;>omega]
 cases nmsB ns<;>cases ((ns.length:Int)==(k:Int))<;>cases decide (least<=(k:Int))<;>cases decide (k<=24)<;>rfl
theorem rd_iff {k:Int}(hA:AOk A)(h0:0<=k)(h20:k<=20)(hc:af4 k id nm n m (aa3 ns) (tvs ks) (lvs ls) (cvs ch)=true):(rOk k id nm n m ns ks ls ch A&&!dupA id k A)=wiB k id nm (sq A) (shB k n m ns ks.length (U ns n ls ks) (vaB id ns ks.length ch)):=by
 have hI:=fun h:iddB id=true=>bC2 h
 have hany:=any_sq id A
 have hnone:aG6 id (sq A)= !anyB id A:=by rw [hany];simp
 rcases (by omega:k=0∨k=1∨k=2∨k=3∨k=4∨k=5∨k=6∨k=7∨k=8∨k=9∨k=10∨k=11∨k=12∨k=13∨k=14∨k=15∨k=16∨k=17∨k=18∨k=19∨k=20) with rfl | rfl | rfl | rfl | rfl | rfl | rfl | rfl | rfl | rfl | rfl | rfl | rfl | rfl | rfl | rfl | rfl | rfl | rfl | rfl | rfl
 ·have he:eS id=true:=by
   have:af4 0 id nm n m (aa3 ns) (tvs ks) (lvs ls) (cvs ch)=(eS id&&((hb 0 2||eS nm)&&((hb 0 4||n==0)&&((hb 0 8||m==0)&&((hb 0 16||eL (aa3 ns))&&((hb 0 32||eL (tvs ks))&&((hb 0 64||eL (lvs ls))&&(hb 0 128||eL (cvs ch))))))))):=by kernel_rfl
   rw [this] at hc
   exact (Bool.and_eq_true _ _▸hc).1
  rw [show wiB 0 id nm (sq A) (shB 0 n m ns ks.length (U ns n ls ks) (vaB id ns ks.length ch))=(true) by kernel_rfl,show dupA id 0 A=(!eS id&&anyB id A) by kernel_rfl,show rOk 0 id nm n m ns ks ls ch A=(true) from rfl]
  exact an2 he (rfl)
 ·have he:eS id=true:=by
   have:af4 1 id nm n m (aa3 ns) (tvs ks) (lvs ls) (cvs ch)=(eS id&&((hb 1 2||eS nm)&&((hb 1 4||n==0)&&((hb 1 8||m==0)&&((hb 1 16||eL (aa3 ns))&&((hb 1 32||eL (tvs ks))&&((hb 1 64||eL (lvs ls))&&(hb 1 128||eL (cvs ch))))))))):=by kernel_rfl
   rw [this] at hc
   exact (Bool.and_eq_true _ _▸hc).1
  rw [show wiB 1 id nm (sq A) (shB 1 n m ns ks.length (U ns n ls ks) (vaB id ns ks.length ch))=(true) by kernel_rfl,show dupA id 1 A=(!eS id&&anyB id A) by kernel_rfl,show rOk 1 id nm n m ns ks ls ch A=(true) from rfl]
  exact an2 he (rfl)
 ·have he:eS id=true:=by
   have:af4 2 id nm n m (aa3 ns) (tvs ks) (lvs ls) (cvs ch)=(eS id&&((hb 2 2||eS nm)&&((hb 2 4||n==0)&&((hb 2 8||m==0)&&((hb 2 16||eL (aa3 ns))&&((hb 2 32||eL (tvs ks))&&((hb 2 64||eL (lvs ls))&&(hb 2 128||eL (cvs ch))))))))):=by kernel_rfl
   rw [this] at hc
   exact (Bool.and_eq_true _ _▸hc).1
  rw [show wiB 2 id nm (sq A) (shB 2 n m ns ks.length (U ns n ls ks) (vaB id ns ks.length ch))=(true) by kernel_rfl,show dupA id 2 A=(!eS id&&anyB id A) by kernel_rfl,show rOk 2 id nm n m ns ks ls ch A=(true) from rfl]
  exact an2 he (rfl)
 ·have he:eS id=true:=by
   have:af4 3 id nm n m (aa3 ns) (tvs ks) (lvs ls) (cvs ch)=(eS id&&((hb 3 2||eS nm)&&((hb 3 4||n==0)&&((hb 3 8||m==0)&&((hb 3 16||eL (aa3 ns))&&((hb 3 32||eL (tvs ks))&&((hb 3 64||eL (lvs ls))&&(hb 3 128||eL (cvs ch))))))))):=by kernel_rfl
   rw [this] at hc
   exact (Bool.and_eq_true _ _▸hc).1
  rw [show wiB 3 id nm (sq A) (shB 3 n m ns ks.length (U ns n ls ks) (vaB id ns ks.length ch))=(true) by kernel_rfl,show dupA id 3 A=(!eS id&&anyB id A) by kernel_rfl,show rOk 3 id nm n m ns ks ls ch A=(true) from rfl]
  exact an2 he (rfl)
 ·have he:eS id=true:=by
   have:af4 4 id nm n m (aa3 ns) (tvs ks) (lvs ls) (cvs ch)=(eS id&&((hb 4 2||eS nm)&&((hb 4 4||n==0)&&((hb 4 8||m==0)&&((hb 4 16||eL (aa3 ns))&&((hb 4 32||eL (tvs ks))&&((hb 4 64||eL (lvs ls))&&(hb 4 128||eL (cvs ch))))))))):=by kernel_rfl
   rw [this] at hc
   exact (Bool.and_eq_true _ _▸hc).1
  rw [show wiB 4 id nm (sq A) (shB 4 n m ns ks.length (U ns n ls ks) (vaB id ns ks.length ch))=(true) by kernel_rfl,show dupA id 4 A=(!eS id&&anyB id A) by kernel_rfl,show rOk 4 id nm n m ns ks ls ch A=(true) from rfl]
  exact an2 he (rfl)
 ·have he:eS id=true:=by
   have:af4 5 id nm n m (aa3 ns) (tvs ks) (lvs ls) (cvs ch)=(eS id&&((hb 5 2||eS nm)&&((hb 5 4||n==0)&&((hb 5 8||m==0)&&((hb 5 16||eL (aa3 ns))&&((hb 5 32||eL (tvs ks))&&((hb 5 64||eL (lvs ls))&&(hb 5 128||eL (cvs ch))))))))):=by kernel_rfl
   rw [this] at hc
   exact (Bool.and_eq_true _ _▸hc).1
  rw [show wiB 5 id nm (sq A) (shB 5 n m ns ks.length (U ns n ls ks) (vaB id ns ks.length ch))=(true) by kernel_rfl,show dupA id 5 A=(!eS id&&anyB id A) by kernel_rfl,show rOk 5 id nm n m ns ks ls ch A=(true) from rfl]
  exact an2 he (rfl)
 ·have he:eS id=true:=by
   have:af4 6 id nm n m (aa3 ns) (tvs ks) (lvs ls) (cvs ch)=(eS id&&((hb 6 2||eS nm)&&((hb 6 4||n==0)&&((hb 6 8||m==0)&&((hb 6 16||eL (aa3 ns))&&((hb 6 32||eL (tvs ks))&&((hb 6 64||eL (lvs ls))&&(hb 6 128||eL (cvs ch))))))))):=by kernel_rfl
   rw [this] at hc
   exact (Bool.and_eq_true _ _▸hc).1
  rw [show wiB 6 id nm (sq A) (shB 6 n m ns ks.length (U ns n ls ks) (vaB id ns ks.length ch))=(true) by kernel_rfl,show dupA id 6 A=(!eS id&&anyB id A) by kernel_rfl,show rOk 6 id nm n m ns ks ls ch A=(true) from rfl]
  exact an2 he (rfl)
 ·have he:eS id=true:=by
   have:af4 7 id nm n m (aa3 ns) (tvs ks) (lvs ls) (cvs ch)=(eS id&&((hb 7 2||eS nm)&&((hb 7 4||n==0)&&((hb 7 8||m==0)&&((hb 7 16||eL (aa3 ns))&&((hb 7 32||eL (tvs ks))&&((hb 7 64||eL (lvs ls))&&(hb 7 128||eL (cvs ch))))))))):=by kernel_rfl
   rw [this] at hc
   exact (Bool.and_eq_true _ _▸hc).1
  rw [show wiB 7 id nm (sq A) (shB 7 n m ns ks.length (U ns n ls ks) (vaB id ns ks.length ch))=(decide (0<=n/\n<=1000)) by kernel_rfl,show dupA id 7 A=(!eS id&&anyB id A) by kernel_rfl,show rOk 7 id nm n m ns ks ls ch A=(decide (n>=0)&&decide (n<=1000)) from rfl]
  exact an2 he (by rw [Bool.eq_iff_iff];simp<;>omega)
 ·have he:eS id=true:=by
   have:af4 8 id nm n m (aa3 ns) (tvs ks) (lvs ls) (cvs ch)=(eS id&&((hb 8 2||eS nm)&&((hb 8 4||n==0)&&((hb 8 8||m==0)&&((hb 8 16||eL (aa3 ns))&&((hb 8 32||eL (tvs ks))&&((hb 8 64||eL (lvs ls))&&(hb 8 128||eL (cvs ch))))))))):=by kernel_rfl
   rw [this] at hc
   exact (Bool.and_eq_true _ _▸hc).1
  rw [show wiB 8 id nm (sq A) (shB 8 n m ns ks.length (U ns n ls ks) (vaB id ns ks.length ch))=(decide (1<=n/\n<=31/\0<=m/\m<=n)) by kernel_rfl,show dupA id 8 A=(!eS id&&anyB id A) by kernel_rfl,show rOk 8 id nm n m ns ks ls ch A=(decide (n>=1)&&(decide (n<=31)&&(decide (m>=0)&&decide (m<=n)))) from rfl]
  exact an2 he (by rw [Bool.eq_iff_iff];simp<;>omega)
 ·rw [show wiB 9 id nm (sq A) (shB 9 n m ns ks.length (U ns n ls ks) (vaB id ns ks.length ch))=(af2 nm&&((iddB id&&aG6 id (sq A))&&(decide (1<=ns.length/\ns.length<=24)&&nmsB ns))) by kernel_rfl,show dupA id 9 A=(!eS id&&anyB id A) by kernel_rfl,show rOk 9 id nm n m ns ks ls ch A=((iddB id&&af2 nm)&&(memB ns ns.length 1)) from rfl,hnone]
  exact aB7 hI (by rw [bA9,Bool.eq_iff_iff];simp<;>omega)
 ·rw [show wiB 10 id nm (sq A) (shB 10 n m ns ks.length (U ns n ls ks) (vaB id ns ks.length ch))=(af2 nm&&((iddB id&&aG6 id (sq A))&&(decide (1<=ks.length/\ks.length<=24)&&((ns.length:Int)==(ks.length:Int)&&nmsB ns)))) by kernel_rfl,show dupA id 10 A=(!eS id&&anyB id A) by kernel_rfl,show rOk 10 id nm n m ns ks ls ch A=((iddB id&&af2 nm)&&(memB ns ks.length 1)) from rfl,hnone]
  exact aB7 hI (by rw [bA9,show decide (1<=ks.length/\ks.length<=24)=(decide ((1:Int)<=(ks.length:Int))&&decide (ks.length<=24)) by rw [Bool.eq_iff_iff];simp<;>omega])
 ·rw [show wiB 11 id nm (sq A) (shB 11 n m ns ks.length (U ns n ls ks) (vaB id ns ks.length ch))=(af2 nm&&((iddB id&&aG6 id (sq A))&&(U ns n ls ks))) by kernel_rfl,show dupA id 11 A=(!eS id&&anyB id A) by kernel_rfl,show rOk 11 id nm n m ns ks ls ch A=((iddB id&&af2 nm)&&(U ns n ls ks)) from rfl,hnone]
  exact aB7 hI (rfl)
 ·have he:eS id=true:=by
   have:af4 12 id nm n m (aa3 ns) (tvs ks) (lvs ls) (cvs ch)=(eS id&&((hb 12 2||eS nm)&&((hb 12 4||n==0)&&((hb 12 8||m==0)&&((hb 12 16||eL (aa3 ns))&&((hb 12 32||eL (tvs ks))&&((hb 12 64||eL (lvs ls))&&(hb 12 128||eL (cvs ch))))))))):=by kernel_rfl
   rw [this] at hc
   exact (Bool.and_eq_true _ _▸hc).1
  rw [show wiB 12 id nm (sq A) (shB 12 n m ns ks.length (U ns n ls ks) (vaB id ns ks.length ch))=(decide (0<=n/\n<=1000/\ks.length=1)) by kernel_rfl,show dupA id 12 A=(!eS id&&anyB id A) by kernel_rfl,show rOk 12 id nm n m ns ks ls ch A=(decide (n>=0)&&(decide (n<=1000)&&((ks.length:Int)==1))) from rfl]
  exact an2 he (by rw [Bool.eq_iff_iff];simp<;>omega)
 ·have he:eS id=true:=by
   have:af4 13 id nm n m (aa3 ns) (tvs ks) (lvs ls) (cvs ch)=(eS id&&((hb 13 2||eS nm)&&((hb 13 4||n==0)&&((hb 13 8||m==0)&&((hb 13 16||eL (aa3 ns))&&((hb 13 32||eL (tvs ks))&&((hb 13 64||eL (lvs ls))&&(hb 13 128||eL (cvs ch))))))))):=by kernel_rfl
   rw [this] at hc
   exact (Bool.and_eq_true _ _▸hc).1
  rw [show wiB 13 id nm (sq A) (shB 13 n m ns ks.length (U ns n ls ks) (vaB id ns ks.length ch))=(decide (1<=n/\n<=1000/\ks.length=1)) by kernel_rfl,show dupA id 13 A=(!eS id&&anyB id A) by kernel_rfl,show rOk 13 id nm n m ns ks ls ch A=(decide (n>=1)&&(decide (n<=1000)&&((ks.length:Int)==1))) from rfl]
  exact an2 he (by rw [Bool.eq_iff_iff];simp<;>omega)
 ·rw [show wiB 14 id nm (sq A) (shB 14 n m ns ks.length (U ns n ls ks) (vaB id ns ks.length ch))=(af2 nm&&((iddB id&&aG6 id (sq A))&&(decide (ks.length=1)))) by kernel_rfl,show dupA id 14 A=(!eS id&&anyB id A) by kernel_rfl,show rOk 14 id nm n m ns ks ls ch A=((iddB id&&af2 nm)&&(((ks.length:Int)==1))) from rfl,hnone]
  exact aB7 hI (by rw [Bool.eq_iff_iff];simp<;>omega)
 ·rw [show wiB 15 id nm (sq A) (shB 15 n m ns ks.length (U ns n ls ks) (vaB id ns ks.length ch))=(af2 nm&&((iddB id&&aG6 id (sq A))&&(decide (ks.length<=24)&&((ns.length:Int)==(ks.length:Int)&&nmsB ns)))) by kernel_rfl,show dupA id 15 A=(!eS id&&anyB id A) by kernel_rfl,show rOk 15 id nm n m ns ks ls ch A=((iddB id&&af2 nm)&&(memB ns ks.length 0)) from rfl,hnone]
  exact aB7 hI (by rw [bA9,decide_eq_true (show (0:Int)<=(ks.length:Int) by omega),Bool.true_and])
 ·rw [show wiB 16 id nm (sq A) (shB 16 n m ns ks.length (U ns n ls ks) (vaB id ns ks.length ch))=(af2 nm&&((iddB id&&aG6 id (sq A))&&true)) by kernel_rfl,show dupA id 16 A=(!eS id&&anyB id A) by kernel_rfl,show rOk 16 id nm n m ns ks ls ch A=(iddB id&&af2 nm) from rfl,hnone,←Bool.and_true (iddB id&&af2 nm)]
  exact aB7 hI rfl
 ·rw [show wiB 17 id nm (sq A) (shB 17 n m ns ks.length (U ns n ls ks) (vaB id ns ks.length ch))=(af2 nm&&((iddB id&&aG6 id (sq A))&&vaB id ns ks.length ch)) by kernel_rfl,show dupA id 17 A=(!eS id&&anyB id A) by kernel_rfl,show rOk 17 id nm n m ns ks ls ch A=(af2 nm&&(memB ns ks.length 0&&aF2 ks.length id ch)) from rfl,hnone]
  have e:(af2 nm&&(memB ns ks.length 0&&aF2 ks.length id ch))=((iddB id&&af2 nm)&&vaB id ns ks.length ch):=by
   unfold vaB
   rw [bA9,decide_eq_true (show (0:Int)<=(ks.length:Int) by omega),Bool.true_and]
   cases hcb:aF2 ks.length id ch with
   | false=>simp
   | true=>rw [chain_id hcb];simp
  rw [e]
  exact aB7 hI rfl
 ·have he:eS id=true:=by
   have:af4 18 id nm n m (aa3 ns) (tvs ks) (lvs ls) (cvs ch)=(eS id&&((hb 18 2||eS nm)&&((hb 18 4||n==0)&&((hb 18 8||m==0)&&((hb 18 16||eL (aa3 ns))&&((hb 18 32||eL (tvs ks))&&((hb 18 64||eL (lvs ls))&&(hb 18 128||eL (cvs ch))))))))):=by kernel_rfl
   rw [this] at hc
   exact (Bool.and_eq_true _ _▸hc).1
  rw [show wiB 18 id nm (sq A) (shB 18 n m ns ks.length (U ns n ls ks) (vaB id ns ks.length ch))=(true) by kernel_rfl,show dupA id 18 A=(!eS id&&anyB id A) by kernel_rfl,show rOk 18 id nm n m ns ks ls ch A=(true) from rfl]
  exact an2 he (rfl)
 ·have he:eS id=true:=by
   have:af4 19 id nm n m (aa3 ns) (tvs ks) (lvs ls) (cvs ch)=(eS id&&((hb 19 2||eS nm)&&((hb 19 4||n==0)&&((hb 19 8||m==0)&&((hb 19 16||eL (aa3 ns))&&((hb 19 32||eL (tvs ks))&&((hb 19 64||eL (lvs ls))&&(hb 19 128||eL (cvs ch))))))))):=by kernel_rfl
   rw [this] at hc
   exact (Bool.and_eq_true _ _▸hc).1
  rw [show wiB 19 id nm (sq A) (shB 19 n m ns ks.length (U ns n ls ks) (vaB id ns ks.length ch))=(true) by kernel_rfl,show dupA id 19 A=(!eS id&&anyB id A) by kernel_rfl,show rOk 19 id nm n m ns ks ls ch A=(true) from rfl]
  exact an2 he (rfl)
 ·rw [show wiB 20 id nm (sq A) (shB 20 n m ns ks.length (U ns n ls ks) (vaB id ns ks.length ch))=(sq A).any (okA id) by kernel_rfl,show dupA id 20 A=(!eS id&&(false&&anyB id A)) by kernel_rfl,show rOk 20 id nm n m ns ks ls ch A=bh8 id A from rfl,leads_any hA]
  cases eS id<;>simp
theorem cl_kids {k:Int}(h:af4 k id nm n m (aa3 ns) (tvs ks) (lvs ls) (cvs ch)=true)(hk:hb k 32=false):ks=[]:=by
 unfold af4 at h
 rw [hk] at h
 simp only [Bool.and_eq_true,Bool.false_or] at h
 have:=h.2.2.2.2.2.1
 unfold eL at this
 rw [ad8,beq_iff_eq] at this
 exact List.length_eq_zero_iff.1 (by omega)
theorem tag_own {k:Int}{d:Int}{B:List Ar}{vt:Bool}(hk:(decide (1<=k/\k<=5)||k==9)=true)(h:ownB k id nm n m ns ks ls ch B d vt=true):ks=[]/\∀vt',ownB k id nm n m ns ks ls ch [] 1 vt'=true:=by
 unfold ownB at h
 simp only [Bool.and_eq_true] at h
 obtain ⟨h1,h2,h3,h4,h5⟩:=h
 have hk':(1<=k/\k<=5)∨k=9:=by
  simp only [Bool.or_eq_true,decide_eq_true_eq,beq_iff_eq] at hk
  exact hk
 have hb32:hb k 32=false:=by
  rcases (by omega:k=1∨k=2∨k=3∨k=4∨k=5∨k=9) with rfl | rfl | rfl | rfl | rfl | rfl<;>kernel_rfl
 refine ⟨cl_kids h3 hb32,fun vt'=>?_⟩
 unfold ownB
 rw [h1,h3,show decide ((1:Int)<=16)=true from rfl,show decide ((1:Int)<1)=false from rfl,Bool.and_false]
 have e:∀(C:List Ar) (w:Bool),wiB k id nm C (shB k n m ns ks.length (unT w ns n ls ks) (vaB id ns ks.length ch))=if k=9 then af2 nm&&((iddB id&&aG6 id C)&&(decide (1<=ns.length/\ns.length<=24)&&nmsB ns)) else true:=by
  intro C w
  rcases (by omega:k=1∨k=2∨k=3∨k=4∨k=5∨k=9) with rfl | rfl | rfl | rfl | rfl | rfl<;>kernel_rfl
 rw [e] at h5 ⊢
 split
 ·rename_i h9
  rw [if_pos h9] at h5
  simp only [Bool.and_eq_true] at h5
  rw [h5.1,h5.2.1.1,h5.2.2.2,h5.2.2.1]
  rfl
 ·rfl
theorem insA_sq {k:Int}(hk:k≠20)(h0:0<=k)(h20:k<=20)(hc:af4 k id nm n m (aa3 ns) (tvs ks) (lvs ls) (cvs ch)=true):insA (sq A) k id=sq (inA A k id):=by
 have hw:(bif hb k 1 then id else ⟨#[]⟩)=id:=by
  cases h:hb k 1 with
  | true=>rfl
  | false=>
   unfold af4 at hc
   rw [h] at hc
   simp only [Bool.and_eq_true,Bool.false_or] at hc
   exact ((eS_iff id).1 hc.1).symm
 have hs:sq (A++[(id,k,k==12)])=sqb (k==12) A++[(id,k,k==12)]:=by
  rw [←sqb_f,bq6]
  simp
 have ht:∀A,sqb true A=(sq A).map fun a=>(a.1,a.2.1,true):=by
  intro A
  induction A with
  | nil=>rfl
  | cons a r ih=>rw [sqb,sq,ih];simp
 unfold insA inA
 rw [if_neg hk,hs]
 show (bif k==12 then (sq A++[(bif hb k 1 then id else ⟨#[]⟩,k,false)]).map (fun a=>(a.1,a.2.1,true)) else sq A++[(bif hb k 1 then id else ⟨#[]⟩,k,false)])=_
 rw [hw]
 cases (k==12) with
 | true=>rw [cond_true,ht,List.map_append];rfl
 | false=>rw [cond_false,sqb_f]
theorem AOk_in {k:Int}(hA:AOk A)(hk:k≠20)(hok:rOk k id nm n m ns ks ls ch A=true)(hd:dupA id k A=false):AOk (inA A k id):=by
 unfold inA
 rw [if_neg hk,bt4]
 refine ⟨hA,fun he=>?_,fun he=>?_⟩
 ·refine ⟨?_,?_,?_⟩
  ·rintro rfl
   rw [show rOk 17 id nm n m ns ks ls ch A=(af2 nm&&(memB ns ks.length 0&&aF2 ks.length id ch)) from rfl] at hok
   simp only [Bool.and_eq_true] at hok
   rw [bC2 (chain_id hok.2.2)] at he
   cases he
  ·rintro rfl
   rw [show rOk 10 id nm n m ns ks ls ch A=((iddB id&&af2 nm)&&memB ns ks.length 1) from rfl] at hok
   simp only [Bool.and_eq_true] at hok
   rw [bC2 hok.1.1] at he
   cases he
  ·rintro rfl
   rw [show rOk 11 id nm n m ns ks ls ch A=((iddB id&&af2 nm)&&(decide (0<ks.length)&&(memB ns ((ks.length-1:Nat):Int) 1&&laT ns n ls ks))) from rfl] at hok
   simp only [Bool.and_eq_true] at hok
   rw [bC2 hok.1.1] at he
   cases he
 ·unfold dupA at hd
  rw [show eS id=false from he,show (k !=20)=true by simp [hk]] at hd
  exact hd
theorem cnL_big (l:List Ty)(d p:Nat)(h:300<p):cnL l d p=p:=by
 cases l with
 | nil=>rfl
 | cons t r=>rw [cnL,if_pos h]
end
def PT (t:Ty):Prop:=∀(A:List Ar) (d p:Nat),AOk A->1<=d->((kvT t A d p).1=true↔(rvB t (sq A) d=true/\cnT t d p<=300))/\((kvT t A d p).1=true->(kvT t A d p).2=cnT t d p)
theorem kvL_iff :∀(ks:List Ty),(∀t∈ks,PT t)->∀(A:List Ar) (d p:Nat),AOk A->p<=300->((kvL ks A (d+1:Nat) p).1=true↔(rvsB ks (sq A) (d+1:Nat)=true/\cnL ks d p<=300))/\((kvL ks A (d+1:Nat) p).1=true->(kvL ks A (d+1:Nat) p).2=cnL ks d p)
 | [],_,A,d,p,_,hp=>by rw [kvL,rvsB,cnL];simp [hp]
 | t::r,h,A,d,p,hA,hp=>by
  obtain ⟨t1,t2⟩:=h t (List.mem_cons_self ..) A (d+1) p hA (by omega)
  rw [kvL,rvsB,cnL,if_neg (show ¬300<p by omega)]
  by_cases hk:(kvT t A (d+1:Nat) p).1=true
  ·obtain ⟨r1,r2⟩:=kvL_iff r (fun t ht=>h t (List.mem_cons_of_mem _ ht)) A d (kvT t A (d+1:Nat) p).2 hA (kvT_le t A _ p hk)
   rw [if_pos hk,←t2 hk,(t1.1 hk).1,Bool.true_and]
   exact ⟨r1,r2⟩
  ·rw [if_neg hk]
   refine ⟨⟨(fun h=>by cases h),fun h=>?_⟩,(fun h=>by cases h)⟩
   exfalso
   rw [Bool.and_eq_true] at h
   apply hk
   rw [t1]
   refine ⟨h.1.1,?_⟩
   by_cases hb:300<cnT t (d+1) p
   ·rw [cnL_big r d _ hb] at h;exact h.2
   ·omega
mutual
theorem kv_rv :∀t:Ty,PT t
 | .mk k id nm n m f1 ns f2 ks f3 ls f4 ch=>by
  have hR:=kvs_rvs ks
  intro A d p hA hd
  rw [kvT,rvB,cnT]
  by_cases hbad:badB k d (p+1)=true
  ·rw [if_pos hbad]
   refine ⟨⟨(fun h=>by cases h),fun h=>?_⟩,(fun h=>by cases h)⟩
   exfalso
   obtain ⟨h1,h2⟩:=h
   rw [Bool.and_eq_true] at h1
   have h3:=h1.1
   unfold ownB at h3
   unfold badB at hbad
   simp only [Bool.and_eq_true,Bool.or_eq_true,decide_eq_true_eq,beq_iff_eq,Bool.not_eq_true',Bool.and_eq_false_iff,decide_eq_false_iff_not] at h3 hbad
   obtain ⟨a1,a2,a3,a4,a5⟩:=h3
   rw [if_neg (by omega)] at h2
   by_cases hp:300<p+1
   ·rw [cnL_big ks d _ hp] at h2;omega
   ·omega
  ·rw [if_neg hbad]
   unfold badB at hbad
   simp only [Bool.and_eq_true,Bool.or_eq_true,decide_eq_true_eq,beq_iff_eq] at hbad
   have hk0:0<=k:=by omega
   have hk20:k<=20:=by omega
   rw [if_neg (show ¬16<d by omega)]
   cases hcl:af4 k id nm n m (aa3 ns) (tvs ks) (lvs ls) (cvs ch) with
   | false=>
    rw [if_neg (by unfold okB;rw [hcl];simp)]
    refine ⟨⟨(fun h=>by cases h),fun h=>?_⟩,(fun h=>by cases h)⟩
    exfalso
    have h3:=(Bool.and_eq_true _ _▸h.1).1
    unfold ownB at h3
    rw [hcl] at h3
    simp at h3
   | true=>
    have hrd:=rd_iff (k:=k) hA hk0 hk20 hcl
    have hown:∀vt,ownB k id nm n m ns ks ls ch (sq A) d vt=wiB k id nm (sq A) (shB k n m ns ks.length (unT vt ns n ls ks) (vaB id ns ks.length ch)):=by
     intro vt
     unfold ownB
     rw [decide_eq_true (show 0<=k/\k<=20 from ⟨hk0,hk20⟩),decide_eq_true (show (d:Int)<=16 by omega),hcl,show (decide (k=0∨k=15)&&decide (1<(d:Int)))=false by
      rw [Bool.and_eq_false_iff,decide_eq_false_iff_not,decide_eq_false_iff_not];omega]
     simp
    have hsh:∀vt,(k=11->vt=true)->shB k n m ns ks.length (unT vt ns n ls ks) (vaB id ns ks.length ch)=shB k n m ns ks.length (U ns n ls ks) (vaB id ns ks.length ch):=by
     intro vt hv
     by_cases h11:k=11
     ·rw [unT_U,hv h11,Bool.and_true]
     ·unfold shB
      rw [if_neg h11,if_neg h11]
    have hle:∀vt,wiB k id nm (sq A) (shB k n m ns ks.length (unT vt ns n ls ks) (vaB id ns ks.length ch))=true->(k=11->vt=true):=by
     rintro vt hv rfl
     rw [show wiB 11 id nm (sq A) (shB 11 n m ns ks.length (unT vt ns n ls ks) (vaB id ns ks.length ch))=(af2 nm&&((iddB id&&aG6 id (sq A))&&unT vt ns n ls ks)) by kernel_rfl,unT_U] at hv
     simp only [Bool.and_eq_true] at hv
     exact hv.2.2.2
    rw [hown]
    by_cases h20:k=20
    ·have hks:ks=[]:=cl_kids hcl (by rw [h20];kernel_rfl)
     subst hks
     rw [hsh _ (fun e=>by omega),←hrd]
     rw [show okB k id nm n m ns [] ls ch A=rOk k id nm n m ns [] ls ch A by unfold okB;rw [hcl,Bool.and_true]]
     cases rOk k id nm n m ns [] ls ch A<;>cases dupA id k A<;>simp [kvL,rvsB,cnL]<;>omega
    ·have hins:=insA_sq (A:=A) h20 hk0 hk20 hcl
     rw [show okB k id nm n m ns ks ls ch A=rOk k id nm n m ns ks ls ch A by unfold okB;rw [hcl,Bool.and_true]]
     cases hok:rOk k id nm n m ns ks ls ch A with
     | false=>
      rw [if_neg (by simp)]
      refine ⟨⟨(fun h=>by cases h),fun h=>?_⟩,(fun h=>by cases h)⟩
      exfalso
      have h3:=(Bool.and_eq_true _ _▸h.1).1
      rw [hsh _ (hle _ h3),←hrd,hok] at h3
      cases h3
     | true=>
      cases hdu:dupA id k A with
      | true=>
       rw [if_pos rfl,if_pos rfl]
       refine ⟨⟨(fun h=>by cases h),fun h=>?_⟩,(fun h=>by cases h)⟩
       exfalso
       have h3:=(Bool.and_eq_true _ _▸h.1).1
       rw [hsh _ (hle _ h3),←hrd,hok,hdu] at h3
       cases h3
      | false=>
       rw [if_pos rfl,if_neg (by simp),hins]
       rw [hok,hdu] at hrd
       obtain ⟨l1,l2⟩:=kvL_iff ks hR (inA A k id) d (p+1) (AOk_in hA h20 hok hdu) (by omega)
       rw [show ((d:Int)+1)=((d+1:Nat):Int) by omega]
       refine ⟨?_,l2⟩
       rw [l1,Bool.and_eq_true]
       constructor
       ·rintro ⟨v1,v2⟩
        refine ⟨⟨?_,v1⟩,v2⟩
        rw [hsh _ ?_,←hrd];rfl
        intro h11
        cases ks with
        | nil=>
         exfalso
         subst h11
         rw [show rOk 11 id nm n m ns [] ls ch A=((iddB id&&af2 nm)&&(false&&(memB ns ((([]:List Ty).length-1:Nat):Int) 1&&laT ns n ls []))) from rfl] at hok
         simp at hok
        | cons t r=>
         rw [rvsB,Bool.and_eq_true] at v1
         obtain ⟨k',id',nm',n',m',g1,ns',g2,ks',g3,ls',g4,ch'⟩:=t
         have htg:(decide (1<=k'/\k'<=5)||k'==9)=true:=by
          subst h11
          rw [show rOk 11 id nm n m ns (.mk k' id' nm' n' m' g1 ns' g2 ks' g3 ls' g4 ch'::r) ls ch A=((iddB id&&af2 nm)&&(decide (0<(Ty.mk k' id' nm' n' m' g1 ns' g2 ks' g3 ls' g4 ch'::r).length)&&(memB ns (((Ty.mk k' id' nm' n' m' g1 ns' g2 ks' g3 ls' g4 ch'::r).length-1:Nat):Int) 1&&labB k' ns'.length ns.length n ls))) from rfl] at hok
          simp only [Bool.and_eq_true] at hok
          have:=hok.2.2.2
          unfold labB at this
          simp only [Bool.and_eq_true] at this
          exact this.1.1.1.1
         have hv:=v1.1
         rw [rvB,Bool.and_eq_true] at hv
         obtain ⟨q1,q2⟩:=tag_own htg hv.1
         subst q1
         rw [rtB,rvB,q2]
         rfl
       ·rintro ⟨⟨v0,v1⟩,v2⟩
        exact ⟨v1,v2⟩
theorem kvs_rvs :∀ks:List Ty,∀t∈ks,PT t
 | [],t,h=>by simp at h
 | a::r,t,h=>by
  have h1:=kv_rv a
  rcases List.mem_cons.1 h with e | h
  ·rw [e];exact h1
  ·exact kvs_rvs r t h
end
theorem valid_eq (t:Ty):kVB t=rVB t:=by
 have h:=(kv_rv t [] 1 0 trivial (by omega)).1
 unfold kVB rVB smB
 rw [Bool.eq_iff_iff,Bool.and_eq_true,decide_eq_true_eq]
 exact h.trans ⟨fun h=>⟨h.2,h.1⟩,fun h=>⟨h.2,h.1⟩⟩
end Go.Proofs.YtflhfchgdpbhcaaGreat.E
