/- It is proved of valid operations, of the bounds and of the law what they answer at plain data. No condition beyond the lemmas' own. -/
import Derived.Test.YtflhfchgdpbhcaaGreatPE
set_option maxRecDepth 100000
namespace Go.Proofs.YtflhfchgdpbhcaaGreat.E
open Go
def raA (l:List Ty):Nat->Nat->Bool
 | 0,_=>true
 | k+1,i=>(match l[i]? with | some t=>rVB t&&t.kd==15 | none=>false)&&raA l k (i+1)
def prA (l:List Par):Nat->Nat->Bool
 | 0,_=>true
 | k+1,i=>(match l[i]? with | some p=>pOk p | none=>false)&&prA l k (i+1)
theorem map_at' {α β:Type}{l:List α}{f:α->β}{i:Nat}{p:α}(h:l[i]? =some p):(l.map f)[i]? =some (f p):=by rw [List.getElem?_map,h];rfl
theorem raF_eq (l:List Ty):∀k i,i+k=l.length->raF l k i=(raA l k i&&ndF (l.map (·.ident)) k i)
 | 0,i,_=>rfl
 | k+1,i,h=>by
  obtain ⟨t,ht⟩:=getL (l:=l) (i:=i) (by omega)
  rw [raF,raA,ndF,ht,map_at' ht,raF_eq l k (i+1) (by omega),←List.map_take]
  show ((rVB t&&(t.kd==15&&!hasS t.ident ((l.take i).map (·.ident))))&&_)=(((rVB t&&t.kd==15)&&_)&&((!hasS t.ident ((l.take i).map (·.ident)))&&_))
  generalize raA l k (i+1)=x
  generalize ndF (l.map (·.ident)) k (i+1)=y
  cases rVB t<;>cases (t.kd==15)<;>cases hasS t.ident ((l.take i).map (·.ident))<;>cases x<;>cases y<;>rfl
theorem prF_eq (l:List Par):∀k i,i+k=l.length->prF l k i=(prA l k i&&ndF (l.map (·.nm)) k i)
 | 0,i,_=>rfl
 | k+1,i,h=>by
  obtain ⟨t,ht⟩:=getL (l:=l) (i:=i) (by omega)
  rw [prF,prA,ndF,ht,map_at' ht,prF_eq l k (i+1) (by omega),←List.map_take]
  show ((pOk t&&!hasS t.nm ((l.take i).map (·.nm)))&&_)=((pOk t&&_)&&((!hasS t.nm ((l.take i).map (·.nm)))&&_))
  generalize prA l k (i+1)=x
  generalize ndF (l.map (·.nm)) k (i+1)=y
  cases pOk t<;>cases hasS t.nm ((l.take i).map (·.nm))<;>cases x<;>cases y<;>rfl
section
variable {s1:ByteArray} {b2:Bool} {n3:Int} {s4 s5:ByteArray} {n6 n7:Int} {m8:Bool} {e9:List V} {m10:Bool} {e11:List V} {m12:Bool} {e13:List V} {m14:Bool} {e15:List V} {m16 m18:Bool} {ps:List Par} {rs:List Ty}
theorem or_L7 (hg:gsOk rs)(hl:rs.length<=24)(c:Nat)(hc:c<=1000){m21:Bool}{N:List ByteArray}(hN:N.length<=1000000):∀j i:Nat,i+j=rs.length->∀m23:Bool,aa5.L7 RZ s1 b2 n3 s4 s5 n6 n7 m8 e9 m10 e11 m12 e13 m14 e15 m16 (pavs ps) m18 (tvs rs) (c:Int) m21 (aa3 N) m23 (aa3 ((rs.take i).map (·.ident))) m18 (tvs rs) rs.length i=some (.ret [.bool (raA rs j i&&((ndF N N.length 0&&ndF (rs.map (·.ident)) rs.length 0)&&(decide (c<=24)&&(!b2||(decide (c=0)&&decide (rs.length=0))))))] [])
 | 0,i,h,m23=>by
  obtain rfl:i=rs.length:=by omega
  have J10:∀b,aa5.J10 RZ b=some (.ret [.bool b] []):=fun b=>aa5.J10_of b rfl
  have J9:∀b,aa5.J9 RZ s1 b2 n3 s4 s5 n6 n7 m8 e9 m10 e11 m12 e13 m14 e15 m16 (pavs ps) m18 (tvs rs) (c:Int) b=some (.ret [.bool (!b&&(!b2||(decide (c=0)&&decide (rs.length=0))))] []):=by
   intro b
   apply aa5.J9_of
   unfold aa5.J9b
   rw [ad8]
   simp -implicitDefEqProofs only [J10,aq6,vB,ac4]
   refine ac3 ?_
   rw [show ((c:Int)==z0)=decide (c=0) by rw [Bool.eq_iff_iff,beq_iff_eq,decide_eq_true_eq];show (c:Int)=0↔_;omega,show ((rs.length:Int)==z0)=decide (rs.length=0) by rw [Bool.eq_iff_iff,beq_iff_eq,decide_eq_true_eq];show (rs.length:Int)=0↔_;omega]
   cases b<;>cases b2<;>cases decide (c=0)<;>cases decide (rs.length=0)<;>rfl
  have t1:=bf6 (m:=m21) (l:=N) (by omega)
  have t2:=bf6 (m:=m23) (l:=rs.map (·.ident)) (by rw [List.length_map];omega)
  rw [List.length_map] at t2
  apply aa5.L7_of
  unfold aa5.L7b
  rw [ad9,cond_false,List.take_length]
  simp -implicitDefEqProofs only [vL,show ∀(b:Bool) (l:List ByteArray),aa0 [V.list b 1 (aa3 l)]=true from fun b l=>by simp [aa0,ad1,ad4],ck,cond_true,t1,t2,cP_B,aB_v,J9,ac4,raA,Bool.true_and]
  refine ac3 ?_
  rw [show decide ((c:Int)>24)= !decide (c<=24) by by_cases h:c<=24<;>simp [h]<;>omega]
  generalize (!b2||(decide (c=0)&&decide (rs.length=0)))=x
  cases ndF N N.length 0<;>cases ndF (rs.map (·.ident)) rs.length 0<;>cases decide (c<=24)<;>cases x<;>rfl
 | j+1,i,h,m23=>by
  obtain ⟨t,ht⟩:=getL (l:=rs) (i:=i) (by omega)
  have hv:=bc7 (bj4 hg (List.mem_of_getElem? ht))
  have hn:=aB3 t
  have ih:=or_L7 hg hl c hc (m21:=m21) hN j (i+1) (by omega) true
  have hpa:=aE6 ht
  have hlen:(aa3 ((rs.take i).map (·.ident))).length=i:=by rw [ae8,List.length_map,List.length_take];omega
  rw [ah5 ht,List.map_append,show ∀a b,aa3 (a++b)=aa3 a++aa3 b from fun a b=>by unfold aa3;rw [List.map_append]] at ih
  rw [raA,ht]
  generalize aa3 ((rs.take i).map (·.ident))=E at ih hlen ⊢
  obtain ⟨k,id,tn,n,mm,f1,ns,f2,ks,f3,ls,f4,ch⟩:=t
  rw [tcs] at hv hn
  rw [tv] at hpa
  have J8:∀b,aa5.J8 RZ s1 b2 n3 s4 s5 n6 n7 m8 e9 m10 e11 m12 e13 m14 e15 m16 (pavs ps) m18 (tvs rs) (c:Int) m21 (aa3 N) m23 E m18 (tvs rs) rs.length i b k id tn n mm f1 (aa3 ns) f2 (tvs ks) f3 (lvs ls) f4 (cvs ch)=some (.ret [.bool (!b&&(raA rs j (i+1)&&((ndF N N.length 0&&ndF (rs.map (·.ident)) rs.length 0)&&(decide (c<=24)&&(!b2||(decide (c=0)&&decide (rs.length=0)))))))] []):=by
   intro b
   apply aa5.bF7
   unfold aa5.J8b
   cases b with
   | true=>rfl
   | false=>
    rw [cond_false,as8 (by rw [hlen];simp;omega) (by omega),w6_1 (show i<9223372036854775807 by omega),show (m23||!([vS id]:List V).isEmpty)=true by cases m23<;>rfl]
    exact ih
  apply aa5.L7_of
  unfold aa5.L7b
  rw [af3 (by omega),cond_true]
  simp -implicitDefEqProofs only [hpa,ah7,aC_v,aS_v,aI_v,aL_v,aN_v,hn,ck,cond_true,hv,cP_B,aB_v,J8,ac4]
  refine ac3 ?_
  show _=((rVB (.mk k id tn n mm f1 ns f2 ks f3 ls f4 ch)&&k==15)&&_&&_)
  rw [show (k !=15)= !(k==15) from rfl]
  generalize raA rs j (i+1)=x
  generalize ((ndF N N.length 0&&ndF (rs.map (·.ident)) rs.length 0)&&(decide (c<=24)&&(!b2||(decide (c=0)&&decide (rs.length=0)))))=y
  cases rVB (.mk k id tn n mm f1 ns f2 ks f3 ls f4 ch)<;>cases (k==15)<;>cases x<;>cases y<;>rfl
theorem or_L4 (hp:psOk ps)(hl:ps.length<=24){Q:Nat->Bool}(h7:∀(c:Nat) m,c<=1000->aa5.L7 RZ s1 b2 n3 s4 s5 n6 n7 m8 e9 m10 e11 m12 e13 m14 e15 m16 (pavs ps) m18 (tvs rs) (c:Int) m (aa3 (ps.map (·.nm))) false [] m18 (tvs rs) rs.length z0=some (.ret [.bool (Q c)] [])):∀j i:Nat,i+j=ps.length->∀(c:Nat) (m:Bool),c<=i+1->aa5.L4 RZ s1 b2 n3 s4 s5 n6 n7 m8 e9 m10 e11 m12 e13 m14 e15 m16 (pavs ps) m18 (tvs rs) (c:Int) m (aa3 ((ps.take i).map (·.nm))) [] m16 (pavs ps) ps.length i=some (.ret [.bool (prA ps j i&&Q (c+outF ps j i))] [])
 | 0,i,h,c,m,hc=>by
  obtain rfl:i=ps.length:=by omega
  apply aa5.aE4
  unfold aa5.L4b
  rw [ad9,cond_false,ad8,prA,outF,Nat.add_zero,Bool.true_and,List.take_length]
  exact h7 c m (by omega)
 | j+1,i,h,c,m,hc=>by
  obtain ⟨p,ht⟩:=getL (l:=ps) (i:=i) (by omega)
  have hpo:=hp p (List.mem_of_getElem? ht)
  have hpl:=part_is hpo.2
  have hn:=aB3 p.ty
  have hnm:=aC4 (s:=p.nm) (by have:=hpo.1;unfold sOk at this;omega)
  have ih:=or_L4 hp hl h7 j (i+1) (by omega)
  have hpa:=aS5 ht
  have hlen:(aa3 ((ps.take i).map (·.nm))).length=i:=by rw [ae8,List.length_map,List.length_take];omega
  rw [ah5 ht,List.map_append,show ∀a b,aa3 (a++b)=aa3 a++aa3 b from fun a b=>by unfold aa3;rw [List.map_append]] at ih
  rw [prA,outF,ht]
  generalize aa3 ((ps.take i).map (·.nm))=E at ih hlen ⊢
  obtain ⟨pn,pw,k,id,tn,n,mm,f1,ns,f2,ks,f3,ls,f4,ch⟩:=p
  simp only [pav,tcs] at hpa
  rw [tcs] at hpl hn
  have J5:∀b,aa5.J5 RZ s1 b2 n3 s4 s5 n6 n7 m8 e9 m10 e11 m12 e13 m14 e15 m16 (pavs ps) m18 (tvs rs) (c:Int) m E [] m16 (pavs ps) ps.length i b pn pw k id tn n mm f1 (aa3 ns) f2 (tvs ks) f3 (lvs ls) f4 (cvs ch)=some (.ret [.bool (!b&&(prA ps j (i+1)&&Q (c+((if pw=1 then 0 else 1)+outF ps j (i+1)))))] []):=by
   intro b
   apply aa5.aM6
   unfold aa5.J5b
   cases b with
   | true=>rfl
   | false=>
    rw [cond_false,as8 (by rw [hlen];simp;omega) (by omega),show (m||!([vS pn]:List V).isEmpty)=true by cases m<;>rfl]
    by_cases h1w:pw=1
    ·rw [show (pw !=z1)=false by rw [h1w];rfl,cond_false]
     apply aa5.aV8
     unfold aa5.J6b
     rw [w6_1 (show i<9223372036854775807 by omega)]
     exact (ih c true (by omega)).trans (ac3 (by rw [if_pos h1w,Nat.zero_add];rfl))
    ·rw [show (pw !=z1)=true from bne_iff_ne.2 h1w,cond_true,w6_1 (show c<9223372036854775807 by omega)]
     apply aa5.aV8
     unfold aa5.J6b
     rw [w6_1 (show i<9223372036854775807 by omega)]
     exact (ih (c+1) true (by omega)).trans (ac3 (by rw [if_neg h1w,Nat.add_assoc];rfl))
  apply aa5.aE4
  unfold aa5.L4b
  rw [af3 (by omega),cond_true]
  simp -implicitDefEqProofs only [hpa,ah7,aC_v,aS_v,aI_v,aL_v,aN_v,vS,hn,ck,cond_true,hnm,hpl,cP_B,aB_v,J5,ac4]
  refine ac3 ?_
  show _=(pOk ⟨pn,pw,.mk k id tn n mm f1 ns f2 ks f3 ls f4 ch⟩&&prA ps j (i+1)&&Q (c+((if pw=1 then 0 else 1)+outF ps j (i+1))))
  unfold pOk
  rw [strB,show (⟨#[118,111,105,100]⟩:ByteArray)=ax4 from rfl]
  rw [show decide (pw<1)= !decide (1<=pw) by by_cases h:1<=pw<;>simp [h]<;>omega,show decide (pw>3)= !decide (pw<=3) by by_cases h:pw<=3<;>simp [h]<;>omega]
  simp only
  generalize (rVB (.mk k id tn n mm f1 ns f2 ks f3 ls f4 ch)&&((Ty.mk k id tn n mm f1 ns f2 ks f3 ls f4 ch).kd !=15&&(false||(Ty.mk k id tn n mm f1 ns f2 ks f3 ls f4 ch).kd !=0)))=x
  generalize af2 pn=a1
  generalize decide (pn=ax4)=a2
  generalize decide (1<=pw)=a3
  generalize decide (pw<=3)=a4
  generalize prA ps j (i+1)=r
  generalize Q (c+((if pw=1 then 0 else 1)+outF ps j (i+1)))=q
  cases a1<;>cases a2<;>cases x<;>cases a3<;>cases a4<;>cases r<;>cases q<;>rfl
end
theorem aE7 {o:Opn}(ho:opOk o):RZ.R ap5 [opv o] []=some (.ret [.bool (vopB o)] []):=by
 obtain ⟨a1,a2,a3,a4,a5,a6,a7,a8⟩:=ho
 obtain ⟨onm,ow,res,pf,ps,rf,rs⟩:=o
 simp only at a1 a2 a3 a4 a5 a6 a7 a8
 have hpl:=part_is a2
 have hv:=bc7 a2
 have hn:=aB3 res
 have hso:=strip_ok a1
 have hnm:=aC4 (s:=strip onm) (by omega)
 have hst:=strip_0 (s:=onm)
 unfold vopB opv outs
 simp only
 rw [prF_eq ps ps.length 0 (by omega),raF_eq rs rs.length 0 (by omega)]
 have hkd:∃k,res.kd=k:=⟨_,rfl⟩
 obtain ⟨k,id,tn,n,mm,f1,ns,f2,ks,f3,ls,f4,ch⟩:=res
 rw [show (Ty.mk k id tn n mm f1 ns f2 ks f3 ls f4 ch).kd=k from rfl] at hpl ⊢
 rw [tcs] at hpl hn hv ⊢
 have J3:ps.length<=24->rs.length<=24->∀c:Nat,c<=1->aa5.J3 RZ onm ow k id tn n mm f1 (aa3 ns) f2 (tvs ks) f3 (lvs ls) f4 (cvs ch) pf (pavs ps) rf (tvs rs) (c:Int)=some (.ret [.bool (prA ps ps.length 0&&(raA rs rs.length 0&&((ndF (ps.map (·.nm)) ps.length 0&&ndF (rs.map (·.ident)) rs.length 0)&&(decide (c+outF ps ps.length 0<=24)&&(!ow||(decide (c+outF ps ps.length 0=0)&&decide (rs.length=0)))))))] []):=by
  intro hp24 hr24 c hc
  have hs:=or_L4 (s1:=onm) (b2:=ow) (n3:=k) (s4:=id) (s5:=tn) (n6:=n) (n7:=mm) (m8:=f1) (e9:=aa3 ns) (m10:=f2) (e11:=tvs ks) (m12:=f3) (e13:=lvs ls) (m14:=f4) (e15:=cvs ch) (m16:=pf) (m18:=rf) (rs:=rs) a3 hp24 (Q:=fun c=>raA rs rs.length 0&&((ndF (ps.map (·.nm)) (ps.map (·.nm)).length 0&&ndF (rs.map (·.ident)) rs.length 0)&&(decide (c<=24)&&(!ow||(decide (c=0)&&decide (rs.length=0))))))
   (fun c m hc=>or_L7 a4 hr24 c hc (by rw [List.length_map];omega) rs.length 0 (by omega) false) ps.length 0 (by omega) c false (by omega)
  rw [List.length_map] at hs
  apply aa5.aH9
  unfold aa5.J3b
  rw [as2]
  exact hs
 have J2:∀b,(b=false->ps.length<=24/\rs.length<=24)->aa5.J2 RZ onm ow k id tn n mm f1 (aa3 ns) f2 (tvs ks) f3 (lvs ls) f4 (cvs ch) pf (pavs ps) rf (tvs rs) b=some (.ret [.bool (!b&&(prA ps ps.length 0&&(raA rs rs.length 0&&((ndF (ps.map (·.nm)) ps.length 0&&ndF (rs.map (·.ident)) rs.length 0)&&(decide ((if k=0 then 0 else 1)+outF ps ps.length 0<=24)&&(!ow||(decide ((if k=0 then 0 else 1)+outF ps ps.length 0=0)&&decide (rs.length=0))))))))] []):=by
  intro b hb
  cases b with
  | true=>exact aa5.ak5 _ _ _ _ _ _ _ _ _ _ _ _ _ _ _ _ _ _ _ true rfl
  | false=>
   obtain ⟨h1,h2⟩:=hb rfl
   apply aa5.ak5
   unfold aa5.J2b
   by_cases h0:k=0
   ·rw [cond_false,show (k !=z0)=false by rw [h0];rfl,cond_false]
    exact (J3 h1 h2 0 (by omega)).trans (ac3 (by rw [if_pos h0];rfl))
   ·rw [cond_false,show (k !=z0)=true from bne_iff_ne.2 h0,cond_true]
    exact (J3 h1 h2 1 (by omega)).trans (ac3 (by rw [if_neg h0];rfl))
 generalize hQ:(decide ((if k=0 then 0 else 1)+outF ps ps.length 0<=24)&&(!ow||(decide ((if k=0 then 0 else 1)+outF ps ps.length 0=0)&&decide (rs.length=0))))=Q at J2 ⊢
 rw [show ((prA ps ps.length 0&&ndF (ps.map (·.nm)) ps.length 0)&&((raA rs rs.length 0&&ndF (rs.map (·.ident)) rs.length 0)&&Q))=(prA ps ps.length 0&&(raA rs rs.length 0&&((ndF (ps.map (·.nm)) ps.length 0&&ndF (rs.map (·.ident)) rs.length 0)&&Q))) by
  cases prA ps ps.length 0<;>cases raA rs rs.length 0<;>cases ndF (ps.map (·.nm)) ps.length 0<;>cases ndF (rs.map (·.ident)) rs.length 0<;>cases Q<;>rfl]
 generalize (prA ps ps.length 0&&(raA rs rs.length 0&&((ndF (ps.map (·.nm)) ps.length 0&&ndF (rs.map (·.ident)) rs.length 0)&&Q)))=X at J2 ⊢
 generalize hV:rVB (.mk k id tn n mm f1 ns f2 ks f3 ls f4 ch)=vb at hpl hv ⊢
 have J1:aa5.J1 RZ onm ow k id tn n mm f1 (aa3 ns) f2 (tvs ks) f3 (lvs ls) f4 (cvs ch) pf (pavs ps) rf (tvs rs) (strip onm)=some (.ret [.bool ((af2 (strip onm)&&((vb&&(k !=15&&(true||k !=0)))&&(decide (ps.length<=24)&&decide (rs.length<=24))))&&X)] []):=by
  have J2':=J2 (!(decide (ps.length<=24)&&decide (rs.length<=24))) (by
   intro h
   simp only [Bool.not_eq_false',Bool.and_eq_true,decide_eq_true_eq] at h
   exact h)
  have J2t:=J2 true (by simp)
  apply aa5.an7
  unfold aa5.J1b
  simp -implicitDefEqProofs only [vS,hnm,cP_B,aB_v,hn,ck,cond_true,hpl,hv,as2,ad8]
  rw [show decide ((ps.length:Int)>24)= !decide (ps.length<=24) by by_cases h:ps.length<=24<;>simp [h]<;>omega,show decide ((rs.length:Int)>24)= !decide (rs.length<=24) by by_cases h:rs.length<=24<;>simp [h]<;>omega]
  have e:(bif !decide (ps.length<=24) then aa5.J2 RZ onm ow k id tn n mm f1 (aa3 ns) f2 (tvs ks) f3 (lvs ls) f4 (cvs ch) pf (pavs ps) rf (tvs rs) true else aa5.J2 RZ onm ow k id tn n mm f1 (aa3 ns) f2 (tvs ks) f3 (lvs ls) f4 (cvs ch) pf (pavs ps) rf (tvs rs) (!decide (rs.length<=24)))=some (.ret [.bool ((decide (ps.length<=24)&&decide (rs.length<=24))&&X)] []):=by
   rw [←Bool.not_not (decide (ps.length<=24)&&decide (rs.length<=24)),←J2']
   generalize decide (ps.length<=24)=b
   generalize decide (rs.length<=24)=c
   cases b with
   | false=>rw [Bool.not_false,cond_true,Bool.false_and,Bool.not_false]
   | true=>rw [Bool.not_true,cond_false,Bool.true_and]
  rw [e,J2t]
  simp -implicitDefEqProofs only [ac4]
  refine ac3 ?_
  rw [show (k !=z0)=(k !=0) from rfl]
  by_cases hk:k=0
  ·subst hk
   generalize (decide (ps.length<=24)&&decide (rs.length<=24))=y
   cases af2 (strip onm)<;>cases vb<;>cases y<;>cases X<;>rfl
  ·rw [show (k !=0)=true from bne_iff_ne.2 hk]
   generalize (decide (ps.length<=24)&&decide (rs.length<=24))=y
   cases af2 (strip onm)<;>cases vb<;>cases y<;>cases X<;>cases (k !=15)<;>rfl
 show RZ.R ap5 [.agg [.str onm,.bool ow,.int .i64 k,.str id,.str tn,.int .i64 n,.int .i64 mm,.list f1 1 (aa3 ns),.list f2 9 (tvs ks),.list f3 1 (lvs ls),.list f4 3 (cvs ch),.list pf 11 (pavs ps),.list rf 9 (tvs rs)]] []=_
 apply aa5.b_of
 unfold aa5.b
 by_cases hs0:onm.size=0
 ·rw [decide_eq_false (by omega),cond_false]
  rw [hst.1 (beq_iff_eq.2 hs0)] at J1 ⊢
  apply aa5.ad0
  unfold aa5.J0b
  rw [cond_false]
  exact J1
 ·obtain ⟨c,hc⟩:=bv1 (s:=onm) (i:=0) (by omega)
  rw [decide_eq_true (by omega),cond_true,show z0=(0:Int) from rfl,byteK_0 hc]
  apply aa5.ad0
  unfold aa5.J0b
  by_cases h95:(c.toNat:Int)=95
  ·rw [beq_iff_eq.2 h95,cond_true,show (decide (0<=z1)&&(decide (z1<=(onm.size:Int))&&decide ((onm.size:Int)<=(onm.size:Int))))=true by
    rw [show z1=(1:Int) from rfl,decide_eq_true (by omega),decide_eq_true (by omega),decide_eq_true (by omega)];rfl]
   simp only [ck,cond_true]
   rw [hst.2.2 c hc h95] at J1 ⊢
   exact J1
  ·rw [beq_eq_false_iff_ne.2 h95,cond_false]
   rw [hst.2.1 c hc h95] at J1 ⊢
   exact J1
end Go.Proofs.YtflhfchgdpbhcaaGreat.E
set_option maxRecDepth 100000
namespace Go.Proofs.YtflhfchgdpbhcaaGreat.E
open Go
abbrev Mb :=ByteArray×Ty
def selB (ans:Bool)(p:Par):Bool:=bif p.way==3 then true else (p.way==2)==ans
def mbs (ans:Bool)(o:Opn):List Mb:=(bif ans&&o.res.kd !=0 then [(ax4,o.res)] else [])++(o.ps.filter (selB ans)).map fun p=>(p.nm,p.ty)
def mnm (M:List Mb):List ByteArray:=M.map (·.1)
def mty (f:Ty->Ty)(M:List Mb):List Ty:=M.map fun x=>f x.2
def mst (M:List Mb):List O:=[.box [(.list (!M.isEmpty) 1 (aa3 (mnm M)),true)],.box [(.list (!M.isEmpty) 9 (tvs (mty kc M)),true)]]
theorem rdT_0 (v:V)(r:List O)(K:V->R)(KT:V->List O->R):rdT (O.box [(v,true)]::r) 0 0 K KT=KT v (O.box [(v,false)]::r):=rfl
theorem rdT_1 (a:O)(v:V)(r:List O)(K:V->R)(KT:V->List O->R):rdT (a::O.box [(v,true)]::r) 1 0 K KT=KT v (a::O.box [(v,false)]::r):=rfl
theorem wr_0 (x y:V×Bool)(r:List O)(K:List O->R):wrO (O.box [x]::r) 0 0 [y] K=K (O.box [y]::r):=rfl
theorem wr_1 (a:O)(x y:V×Bool)(r:List O)(K:List O->R):wrO (a::O.box [x]::r) 1 0 [y] K=K (a::O.box [y]::r):=rfl
theorem rd_0 (v:V)(b:Bool)(r:List O)(K:V->R):rd1 (O.box [(v,b)]::r) 0 0 K=K v:=rfl
theorem rd_1 (a:O)(v:V)(b:Bool)(r:List O)(K:V->R):rd1 (a::O.box [(v,b)]::r) 1 0 K=K v:=rfl
theorem callS0_v {s:List O}{K KP:V->List O->R}{x:R}(h:x=some (.ret [] s)):callS0 x K KP=K (.tup []) s:=by subst h;rfl
theorem au7 {v w:V}{s:List O}{K KP:V->R}{x:R}(h:x=some (.ret [v,w] s))(hn:aa0 [v,w]=true):aH8 x K KP=K (.tup [v,w]):=by
 subst h
 show ck (aa0 [v,w]) (aP0 2 [v,w] fun l=>K (one l))=_
 rw [hn]
 rfl
theorem or_ne {α:Type}(b:Bool)(x:α):(b||!([x]:List α).isEmpty)=true:=by cases b<;>rfl
theorem add_is {M:List Mb}{a:ByteArray}{t:Ty}(hg:gOk t)(hM:M.length<=1000):RZ.R av5 [.str a,.agg (tcs t),.obj 0 0,.obj 1 0] (mst M)=some (.ret [] (mst (M++[(a,t)]))):=by
 have hc:=kind_Copy_is hg
 have hn:=aB3 t
 have hno:=ad6 (kc t)
 have e1:aa3 (mnm (M++[(a,t)]))=aa3 (mnm M)++[.str a]:=by unfold aa3 mnm;rw [List.map_append,List.map_append];rfl
 have e2:tvs (mty kc (M++[(a,t)]))=tvs (mty kc M)++[tv (kc t)]:=by unfold mty;rw [as0,as0,List.map_append,List.map_append];rfl
 have e3:(!(M++[(a,t)]).isEmpty)=true:=by cases M<;>rfl
 unfold mst
 rw [e1,e2,e3]
 have l1:(aa3 (mnm M)).length<=1000:=by rw [ae8];unfold mnm;rw [List.length_map];exact hM
 have l2:(tvs (mty kc M)).length<=1000:=by rw [ad8];unfold mty;rw [List.length_map];exact hM
 generalize aa3 (mnm M)=N at l1 ⊢
 generalize tvs (mty kc M)=T at l2 ⊢
 generalize (!M.isEmpty)=m
 obtain ⟨k,id,tn,n,mm,f1,ns,f2,ks,f3,ls,f4,ch⟩:=t
 rw [kc] at hno hc ⊢
 rw [tcs] at hn ⊢
 rw [tv] at hno ⊢
 rw [tv,tv] at hc
 have a1:∀K,apK N [vS a] 16 K=K:=fun K=>as8 (by simp;omega) (by omega)
 have a2:∀(x:V) K,apK T [x] 152 K=K:=fun x K=>as8 (by simp;omega) (by omega)
 have hcp:=fun {K KP}=>cP_v (K:=K) (KP:=KP) hc hno
 apply aM7.b_of
 unfold aM7.b
 simp -implicitDefEqProofs only [rdT_0,rdT_1,wr_0,wr_1,aL_v,a1,a2,vS,vL,hn,ck,cond_true,hcp,aA_v,aC_v,aI_v,aS_v,aN_v,or_ne,aE2,bk5,aq6]
section
variable {ans:Bool} {ps:List Par} {pf:Bool}
theorem mb_L2 (hp:psOk ps)(hl:ps.length<=30){M0:List Mb}(hM:M0.length<=1){N:List Mb}(hN:M0++(ps.filter (selB ans)).map (fun p=>(p.nm,p.ty))=N):∀j i:Nat,i+j=ps.length->∃s',ad2.L2 RZ ans pf (pavs ps) ps.length i (mst (M0++((ps.take i).filter (selB ans)).map fun p=>(p.nm,p.ty)))=some (.ret [.list (!N.isEmpty) 1 (aa3 (mnm N)),.list (!N.isEmpty) 9 (tvs (mty kc N))] s')
 | 0,i,h=>by
  obtain rfl:i=ps.length:=by omega
  rw [List.take_length,hN]
  refine ⟨[.box [(.list (!N.isEmpty) 1 (aa3 (mnm N)),nilB (.list (!N.isEmpty) 1 (aa3 (mnm N))))],.box [(.list (!N.isEmpty) 9 (tvs (mty kc N)),nilB (.list (!N.isEmpty) 9 (tvs (mty kc N))))]],?_⟩
  apply ad2.L2_of
  unfold ad2.L2b mst
  rw [ad9,cond_false]
  simp -implicitDefEqProofs only [rd_0,rd_1,wr_0,wr_1,aL_v,vL,aE2,bk5]
  rfl
 | j+1,i,h=>by
  obtain ⟨p,hp0⟩:=getL (l:=ps) (i:=i) (by omega)
  obtain ⟨s',ih⟩:=mb_L2 hp hl hM hN j (i+1) (by omega)
  have hpo:=hp p (List.mem_of_getElem? hp0)
  have hlen:(M0++((ps.take i).filter (selB ans)).map fun p=>(p.nm,p.ty)).length<=1000:=by
   rw [List.length_append,List.length_map]
   have:=List.length_filter_le (selB ans) (ps.take i)
   rw [List.length_take] at this
   omega
  have hadd:=add_is (a:=p.nm) hpo.2 hlen
  have hpa:=aS5 hp0
  rw [ah5 hp0,List.filter_append,List.map_append,←List.append_assoc] at ih
  have hsel:([p].filter (selB ans)).map (fun p=>(p.nm,p.ty))=bif selB ans p then [(p.nm,p.ty)] else []:=by
   cases hs:selB ans p<;>simp [hs]
  rw [hsel] at ih
  generalize (M0++((ps.take i).filter (selB ans)).map fun p=>(p.nm,p.ty))=M at ih hadd ⊢
  obtain ⟨pn,pw,k,id,tn,n,mm,f1,ns,f2,ks,f3,ls,f4,ch⟩:=p
  simp only [pav,tcs] at hpa
  rw [tcs] at hadd
  have J3:ad2.J3 RZ ans pf (pavs ps) ps.length i (selB ans ⟨pn,pw,.mk k id tn n mm f1 ns f2 ks f3 ls f4 ch⟩) pn pw k id tn n mm f1 (aa3 ns) f2 (tvs ks) f3 (lvs ls) f4 (cvs ch) (mst M)=some (.ret [.list (!N.isEmpty) 1 (aa3 (mnm N)),.list (!N.isEmpty) 9 (tvs (mty kc N))] s'):=by
   apply ad2.aH9
   unfold ad2.J3b
   cases hs:selB ans ⟨pn,pw,.mk k id tn n mm f1 ns f2 ks f3 ls f4 ch⟩ with
   | false=>
    rw [hs,cond_false,List.append_nil] at ih
    rw [cond_false]
    apply ad2.aS3
    unfold ad2.J4b
    rw [w6_1 (show i<9223372036854775807 by omega)]
    exact ih
   | true=>
    rw [hs,cond_true] at ih
    rw [cond_true]
    simp -implicitDefEqProofs only [vS,vO]
    rw [callS0_v hadd]
    simp -implicitDefEqProofs only [show ∀l K,aT (V.tup l) K=K l from fun _ _=>rfl,aN_v]
    apply ad2.aS3
    unfold ad2.J4b
    rw [w6_1 (show i<9223372036854775807 by omega)]
    exact ih
  refine ⟨s',?_⟩
  apply ad2.L2_of
  unfold ad2.L2b
  rw [af3 (by omega),cond_true]
  simp -implicitDefEqProofs only [hpa,ah7,aC_v,aS_v,aI_v,aL_v,aN_v]
  rw [←J3]
  unfold selB
  simp only
  cases (pw==3) with
  | true=>rw [cond_true,cond_true]
  | false=>rw [cond_false,cond_false]
theorem members_is {o:Opn}(hp:psOk o.ps)(hr:gOk o.res)(hl:o.ps.length<=30):∃s',RZ.R aA2 [opv o,.bool ans] []=some (.ret [.list (!(mbs ans o).isEmpty) 1 (aa3 (mnm (mbs ans o))),.list (!(mbs ans o).isEmpty) 9 (tvs (mty kc (mbs ans o)))] s'):=by
 obtain ⟨onm,ow,res,pf,ps,rf,rs⟩:=o
 simp only at hp hr hl
 generalize hN:mbs ans ⟨onm,ow,res,pf,ps,rf,rs⟩=N
 unfold mbs at hN
 simp only at hN
 have hadd:=add_is (M:=[]) (a:=ax4) hr (by simp)
 obtain ⟨s',hs⟩:=mb_L2 (ans:=ans) (pf:=pf) hp hl (M0:=bif ans&&res.kd !=0 then [(ax4,res)] else []) (by cases (ans&&res.kd !=0)<;>simp) hN ps.length 0 (by omega)
 rw [List.take_zero,List.filter_nil,List.map_nil,List.append_nil] at hs
 refine ⟨s',?_⟩
 unfold opv
 simp only
 obtain ⟨k,id,tn,n,mm,f1,ns,f2,ks,f3,ls,f4,ch⟩:=res
 rw [show (Ty.mk k id tn n mm f1 ns f2 ks f3 ls f4 ch).kd=k from rfl] at hs
 rw [tcs] at hadd ⊢
 show RZ.R aA2 [.agg [.str onm,.bool ow,.int .i64 k,.str id,.str tn,.int .i64 n,.int .i64 mm,.list f1 1 (aa3 ns),.list f2 9 (tvs ks),.list f3 1 (lvs ls),.list f4 3 (cvs ch),.list pf 11 (pavs ps),.list rf 9 (tvs rs)],.bool ans] []=_
 have J0:ad2.J0 RZ ans onm ow k id tn n mm f1 (aa3 ns) f2 (tvs ks) f3 (lvs ls) f4 (cvs ch) pf (pavs ps) rf (tvs rs) (ans&&k !=0) [] []=some (.ret [.list (!N.isEmpty) 1 (aa3 (mnm N)),.list (!N.isEmpty) 9 (tvs (mty kc N))] s'):=by
  apply ad2.ad0
  unfold ad2.J0b
  cases hb:(ans&&k !=0) with
  | false=>
   rw [hb,cond_false] at hs
   rw [cond_false]
   apply ad2.an7
   unfold ad2.J1b
   rw [as2]
   exact hs
  | true=>
   rw [hb,cond_true] at hs
   rw [cond_true]
   simp -implicitDefEqProofs only [vS,vL,vO]
   rw [show [O.box [(V.list false 1 [],true)],O.box [(V.list false 9 [],true)]]=mst [] from rfl,show (⟨#[118,111,105,100]⟩:ByteArray)=ax4 from rfl,callS0_v hadd]
   simp -implicitDefEqProofs only [show ∀l K,aT (V.tup l) K=K l from fun _ _=>rfl,aN_v]
   apply ad2.an7
   unfold ad2.J1b
   rw [as2]
   exact hs
 apply ad2.b_of
 unfold ad2.b
 rw [show (k !=z0)=(k !=0) from rfl]
 cases ans with
 | true=>rw [cond_true];rw [Bool.true_and] at J0;exact J0
 | false=>rw [cond_false];rw [Bool.false_and] at J0;exact J0
end
end Go.Proofs.YtflhfchgdpbhcaaGreat.E
set_option maxRecDepth 100000
namespace Go.Proofs.YtflhfchgdpbhcaaGreat.E
open Go
def Ty0 :Ty:=.mk 0 ⟨#[]⟩ ⟨#[]⟩ 0 0 false [] false [] false [] false []
def wid (ans:Bool):ByteArray:=bif ans then ⟨#[97,110,115,119,101,114]⟩ else ⟨#[113,117,101,115,116,105,111,110]⟩
def wnm (ans:Bool):ByteArray:=bif ans then ⟨#[65,110,115,119,101,114]⟩ else ⟨#[81,117,101,115,116,105,111,110]⟩
def wT (f:Ty->Ty)(ans:Bool)(M:List Mb):Ty:=if M.isEmpty=true then Ty0 else .mk 10 (wid ans) (wnm ans) 0 0 (!M.isEmpty) (mnm M) (!M.isEmpty) (mty f M) false [] false []
theorem bA4 (o:Opn):ad1 (opv o)=true:=by
 obtain ⟨onm,ow,res,pf,ps,rf,rs⟩:=o
 have h1:=ad6 res
 have h2:∀l:List Par,aa0 (pavs l)=true:=by
  intro l
  induction l with
  | nil=>rfl
  | cons p r ih=>
   have h:=ad6 p.ty
   rw [aF7] at h
   show (aa0 (tcs p.ty)&&aa0 (pavs r))=true
   rw [ih,show aa0 (tcs p.ty)=true from h];rfl
 rw [aF7] at h1
 have h3:∀a b:List V,aa0 (a++b)=(aa0 a&&aa0 b):=by
  intro a b
  induction a with
  | nil=>simp [aa0]
  | cons x r ih=>rw [List.cons_append,aa0,aa0,ih,Bool.and_assoc]
 show aa0 (tcs res++[.list pf 11 (pavs ps),.list rf 9 (tvs rs)])=true
 rw [h3,show aa0 (tcs res)=true from h1]
 show (aa0 (pavs ps)&&(aa0 (tvs rs)&&true))=true
 rw [h2,ap9];rfl
theorem bn0 (o:Opn)(b:Bool):aa0 [opv o,.bool b]=true:=by
 show (ad1 (opv o)&&_)=true
 rw [bA4];rfl
section
variable {ans:Bool}
theorem whole_is {o:Opn}(hp:psOk o.ps)(hr:gOk o.res)(hl:o.ps.length<=30):RZ.R aU5 [opv o,.bool ans] []=some (.ret [tv (wT kc ans (mbs ans o))] []):=by
 obtain ⟨s',hm⟩:=members_is (ans:=ans) hp hr hl
 have hn:=bn0 o ans
 generalize mbs ans o=M at hm ⊢
 have hnm:aa0 [V.list (!M.isEmpty) 1 (aa3 (mnm M)),V.list (!M.isEmpty) 9 (tvs (mty kc M))]=true:=by
  simp [aa0,ad1,ad4,ap9]
 obtain ⟨onm,ow,⟨k,id,tn,n,mm,f1,ns,f2,ks,f3,ls,f4,ch⟩,pf,ps,rf,rs⟩:=o
 unfold opv at hm hn ⊢
 simp only [tcs,List.cons_append,List.nil_append] at hm hn ⊢
 have J0:∀a b m1 e1 m2 e2,aK0.J0 RZ [] [] [] [] a b m1 e1 m2 e2 [] []=some (.ret [.agg [.int .i64 10,.str a,.str b,.int .i64 0,.int .i64 0,.list m1 1 e1,.list m2 9 e2,.list false 1 [],.list false 3 []]] []):=fun a b m1 e1 m2 e2=>aK0.ad0 _ _ _ _ _ _ _ _ _ _ _ _ rfl
 apply aK0.b_of
 unfold aK0.b
 simp -implicitDefEqProofs only [vA,vS,vB,vI,vL,hn,ck,cond_true]
 rw [au7 hm hnm]
 simp -implicitDefEqProofs only [show ∀l K,aT (V.tup l) K=K l from fun _ _=>rfl,aC_v,aL_v,aN_v,J0]
 unfold wT
 rw [ae8,show (mnm M).length=M.length from List.length_map _]
 cases M with
 | nil=>rfl
 | cons x r=>
  rw [show ((((x::r:List Mb).length:Nat):Int)==z0)=false from beq_eq_false_iff_ne.2 (by show ¬(((x::r:List Mb).length:Nat):Int)=0;simp;omega),cond_false,if_neg (by simp),tv]
  cases ans<;>rfl
end
mutual
theorem g_kc :∀t,gOk t->gOk (kc t)
 | .mk k id nm n m f1 ns f2 ks f3 ls f4 ch,h=>by
  obtain ⟨a,⟨b1,b2,b3,b4,b5⟩,⟨c1,c2,c3,c4,c5⟩,d⟩:=h
  rw [kc]
  exact ⟨a,⟨b1,by rw [be7,List.length_map];exact b2,b3,b4,b5⟩,⟨c1,(fun h=>by cases h),(fun h=>by cases ls with | nil=>rfl | cons x r=>cases h),c4,c5⟩,gs_kc ks d⟩
theorem gs_kc :∀l,gsOk l->gsOk (kcs l)
 | [],h=>by rw [kcs];exact h
 | t::r,h=>by rw [kcs];exact ⟨g_kc t h.1,gs_kc r h.2⟩
end
theorem flat_fl1 (ls:List (Bool×List Int)):flat (fl1 ls)=flat ls:=by
 unfold flat fl1
 induction ls with
 | nil=>rfl
 | cons x r ih=>rw [List.map_cons,List.flatMap_cons,List.flatMap_cons,ih]
mutual
theorem g_rc :∀t,gOk t->gOk (rc t)
 | .mk k id nm n m f1 ns f2 ks f3 ls f4 ch,h=>by
  obtain ⟨a,⟨b1,b2,b3,b4,b5⟩,⟨c1,c2,c3,c4,c5⟩,d⟩:=h
  rw [rc]
  refine ⟨a,⟨b1,by rw [bd5,List.length_map];exact b2,by rw [List.length_map];exact b3,b4,by have:=flat_fl1 ls;unfold fl1 at this;rw [this];exact b5⟩,⟨(fun h=>by cases h),(fun h=>by cases ks with | nil=>rfl | cons x r=>cases h),(fun h=>by cases ls with | nil=>rfl | cons x r=>cases h),(fun h=>by cases h),?_⟩,gs_rc ks d⟩
  intro l hl
  obtain ⟨x,_,rfl⟩:=List.mem_map.1 hl
  intro h;cases h
theorem gs_rc :∀l,gsOk l->gsOk (rcs l)
 | [],h=>by rw [rcs];exact h
 | t::r,h=>by rw [rcs];exact ⟨g_rc t h.1,gs_rc r h.2⟩
end
theorem gs_of :∀{l:List Ty},(∀t∈l,gOk t)->gsOk l
 | [],_=>trivial
 | t::r,h=>⟨h t (List.mem_cons_self ..),gs_of fun t ht=>h t (List.mem_cons_of_mem _ ht)⟩
theorem g_wT {f:Ty->Ty}(hf:∀t,gOk t->gOk (f t)){ans:Bool}{M:List Mb}(hM:M.length<=1000)(h:∀x∈M,sOk x.1/\gOk x.2):gOk (wT f ans M):=by
 unfold wT
 split
 ·exact ⟨⟨by unfold sOk;decide,by unfold sOk;decide,(fun _ h=>by cases h),(fun _ h=>by cases h)⟩,⟨by simp,by simp,by simp,by simp,by decide⟩,⟨fun _=>rfl,fun _=>rfl,fun _=>rfl,fun _=>rfl,(fun _ h=>by cases h)⟩,trivial⟩
 ·refine ⟨⟨by unfold sOk;cases ans<;>decide,by unfold sOk;cases ans<;>decide,?_,(fun _ h=>by cases h)⟩,⟨by unfold mnm;rw [List.length_map];omega,by unfold mty;rw [List.length_map];omega,by simp,by simp,by decide⟩,⟨?_,?_,fun _=>rfl,fun _=>rfl,(fun _ h=>by cases h)⟩,gs_of ?_⟩
  ·intro x hx
   obtain ⟨y,hy,rfl⟩:=List.mem_map.1 hx
   exact (h y hy).1
  ·intro e;cases M with
   | nil=>rfl
   | cons x r=>cases e
  ·intro e;cases M with
   | nil=>rfl
   | cons x r=>cases e
  ·intro t ht
   obtain ⟨y,hy,rfl⟩:=List.mem_map.1 ht
   exact hf _ (h y hy).2
def mOk (o:Opn):Prop:=opOk o/\o.ps.length<=30
theorem mbs_ok {o:Opn}(ho:mOk o)(ans:Bool):(mbs ans o).length<=1000/\∀x∈mbs ans o,sOk x.1/\gOk x.2:=by
 obtain ⟨⟨a1,a2,a3,a4,a5,a6,a7,a8⟩,a9⟩:=ho
 unfold mbs
 constructor
 ·rw [List.length_append,List.length_map]
  have:=List.length_filter_le (selB ans) o.ps
  have h1:(bif ans&&o.res.kd !=0 then [(ax4,o.res)] else []:List Mb).length<=1:=by cases (ans&&o.res.kd !=0)<;>simp
  omega
 ·intro x hx
  rcases List.mem_append.1 hx with h | h
  ·cases hb:(ans&&o.res.kd !=0) with
   | false=>rw [hb] at h;cases h
   | true=>
    rw [hb,cond_true,List.mem_singleton] at h
    rw [h]
    exact ⟨by show sOk ax4;unfold sOk ax4;decide,a2⟩
  ·obtain ⟨p,hp,rfl⟩:=List.mem_map.1 h
   exact a3 p (List.mem_filter.1 hp).1
def tyR (f:Ty->Ty)(ans:Bool)(o:Opn)(M:List Mb):Ty×Int:=if vopB o=true then (if rVB (wT f ans M)=true then (wT f ans M,0) else (Ty0,4)) else (Ty0,1)
theorem typed_is {o:Opn}(ho:mOk o)(ans:Bool):RZ.R aH1 [opv o,.bool ans] []=some (.ret [tv (tyR kc ans o (mbs ans o)).1,.int .i64 (tyR kc ans o (mbs ans o)).2] []):=by
 obtain ⟨sv,hv⟩:=aX4 ho.1
 obtain ⟨hM,hx⟩:=mbs_ok ho ans
 have hw:=whole_is (ans:=ans) ho.1.2.2.1 ho.1.2.1 ho.2
 have hg:=g_wT (f:=kc) g_kc (ans:=ans) hM hx
 obtain ⟨s2,hkv⟩:=bq3 hg
 have hn:=bn0 o ans
 have hn1:aa0 [opv o]=true:=by show (ad1 (opv o)&&_)=true;rw [bA4];rfl
 have hnt:=aB3 (wT kc ans (mbs ans o))
 unfold tyR
 rw [aF7] at hw
 obtain ⟨onm,ow,⟨k,id,tn,n,mm,f1,ns,f2,ks,f3,ls,f4,ch⟩,pf,ps,rf,rs⟩:=o
 generalize hW:wT kc ans (mbs ans ⟨onm,ow,.mk k id tn n mm f1 ns f2 ks f3 ls f4 ch,pf,ps,rf,rs⟩)=W at hw hkv hnt ⊢
 generalize vopB ⟨onm,ow,.mk k id tn n mm f1 ns f2 ks f3 ls f4 ch,pf,ps,rf,rs⟩=vb at hv ⊢
 unfold opv at hv hw hn hn1 ⊢
 simp only [tcs,List.cons_append,List.nil_append] at hv hw hn hn1 ⊢
 apply bb2.b_of
 unfold bb2.b
 simp -implicitDefEqProofs only [vA,vS,vB,vI,vL,hn,hn1,ck,cond_true]
 rw [cP_v hv rfl,aB_v]
 cases vb with
 | false=>rfl
 | true=>
  rw [Bool.not_true,cond_false,if_pos rfl]
  obtain ⟨k',id',nm',n',m',g1,ns',g2,ks',g3,ls',g4,ch'⟩:=W
  simp only at hw
  rw [tcs] at hkv
  rw [tcs] at hnt
  have hnt1:ad1 (V.agg [.int .i64 k',.str id',.str nm',.int .i64 n',.int .i64 m',.list g1 1 (aa3 ns'),.list g2 9 (tvs ks'),.list g3 1 (lvs ls'),.list g4 3 (cvs ch')])=true:=by
   have:=ad6 (.mk k' id' nm' n' m' g1 ns' g2 ks' g3 ls' g4 ch')
   rw [tv] at this;exact this
  rw [cP_v hw hnt1]
  simp -implicitDefEqProofs only [aA_v,aC_v,aI_v,aS_v,aL_v,aN_v,hnt,cond_true]
  rw [cP_v hkv rfl,aB_v]
  cases rVB (.mk k' id' nm' n' m' g1 ns' g2 ks' g3 ls' g4 ch') with
  | false=>rfl
  | true=>rw [Bool.not_true,cond_false,if_pos rfl,tv];rfl
theorem bx7 {f:FuncId}{o:Opn}{ans:Bool}{T:Ty×Int}:aa0 [tv T.1,.int .i64 T.2]=true:=by
 show (ad1 (tv T.1)&&_)=true
 rw [ad6];rfl
theorem aV3 {o:Opn}(ho:mOk o):RZ.R ax8 [opv o] []=some (.ret [tv (tyR kc false o (mbs false o)).1,.int .i64 (tyR kc false o (mbs false o)).2] []):=by
 have ht:=typed_is ho false
 have hn:=bn0 o false
 have hno:=bx7 (f:=0) (o:=o) (ans:=false) (T:=tyR kc false o (mbs false o))
 generalize tyR kc false o (mbs false o)=T at ht hno ⊢
 obtain ⟨⟨k',id',nm',n',m',g1,ns',g2,ks',g3,ls',g4,ch'⟩,e⟩:=T
 obtain ⟨onm,ow,⟨k,id,tn,n,mm,f1,ns,f2,ks,f3,ls,f4,ch⟩,pf,ps,rf,rs⟩:=o
 unfold opv at ht hn ⊢
 simp only [tcs,List.cons_append,List.nil_append,tv] at ht hn hno ⊢
 apply aP8.b_of
 unfold aP8.b
 simp -implicitDefEqProofs only [vA,vS,vB,vI,vL,hn,ck,cond_true]
 rw [au7 ht hno]
 simp -implicitDefEqProofs only [show ∀l K,aT (V.tup l) K=K l from fun _ _=>rfl,aA_v,aC_v,aI_v,aS_v,aL_v,aN_v,aq6]
theorem ba3 {o:Opn}(ho:mOk o):RZ.R aC9 [opv o] []=some (.ret [tv (tyR kc true o (mbs true o)).1,.int .i64 (tyR kc true o (mbs true o)).2] []):=by
 have ht:=typed_is ho true
 have hn:=bn0 o true
 have hno:=bx7 (f:=0) (o:=o) (ans:=true) (T:=tyR kc true o (mbs true o))
 generalize tyR kc true o (mbs true o)=T at ht hno ⊢
 obtain ⟨⟨k',id',nm',n',m',g1,ns',g2,ks',g3,ls',g4,ch'⟩,e⟩:=T
 obtain ⟨onm,ow,⟨k,id,tn,n,mm,f1,ns,f2,ks,f3,ls,f4,ch⟩,pf,ps,rf,rs⟩:=o
 unfold opv at ht hn ⊢
 simp only [tcs,List.cons_append,List.nil_append,tv] at ht hn hno ⊢
 apply aX5.b_of
 unfold aX5.b
 simp -implicitDefEqProofs only [vA,vS,vB,vI,vL,hn,ck,cond_true]
 rw [au7 ht hno]
 simp -implicitDefEqProofs only [show ∀l K,aT (V.tup l) K=K l from fun _ _=>rfl,aA_v,aC_v,aI_v,aS_v,aL_v,aN_v,aq6]
end Go.Proofs.YtflhfchgdpbhcaaGreat.E
set_option maxRecDepth 100000
namespace Go.Proofs.YtflhfchgdpbhcaaGreat.E
open Go
def selR (ans:Bool)(p:Par):Bool:=bif ans then p.way !=1 else p.way !=2
def mbsR (ans:Bool)(o:Opn):List Mb:=(bif ans&&o.res.kd !=0 then [(ax4,o.res)] else [])++(o.ps.filter (selR ans)).map fun p=>(p.nm,p.ty)
theorem mbs_eq {ans:Bool}{o:Opn}(h:vopB o=true):mbsR ans o=mbs ans o:=by
 unfold vopB at h
 simp only [Bool.and_eq_true] at h
 have hp:=h.2.1
 have key:∀k i,i+k=o.ps.length->prF o.ps k i=true->∀p∈o.ps.drop i,selR ans p=selB ans p:=by
  intro k
  induction k with
  | zero=>intro i hi _ p hp;rw [List.drop_of_length_le (by omega)] at hp;cases hp
  | succ k ih=>
   intro i hi hf p hp
   obtain ⟨q,hq⟩:=getL (l:=o.ps) (i:=i) (by omega)
   rw [am5 hq] at hp
   rw [prF,hq] at hf
   simp only [Bool.and_eq_true] at hf
   rcases List.mem_cons.1 hp with e | hp
   ·have h1:=hf.1.1
    unfold pOk at h1
    simp only [Bool.and_eq_true,decide_eq_true_eq] at h1
    have h2:=h1.2.2.2
    rw [e]
    unfold selR selB
    rcases (by omega:q.way=1∨q.way=2∨q.way=3) with e | e | e<;>rw [e]<;>cases ans<;>rfl
   ·exact ih (i+1) (by omega) hf.2 p hp
 have hk:=key o.ps.length 0 (by omega) hp
 rw [List.drop_zero] at hk
 unfold mbsR mbs
 congr 2
 exact List.filter_congr hk
section
variable {ps:List Par} {pf:Bool}
theorem rcp_is {t:Ty}(hg:gOk t):RZ.R ar6 [.agg (tcs t)] []=some (.ret [tv (rc t)] []):=by
 rw [←aF7]
 exact rcopy_is t hg
theorem mty_snoc (f:Ty->Ty)(M:List Mb)(a:ByteArray)(t:Ty):aa3 (mnm (M++[(a,t)]))=aa3 (mnm M)++[.str a]/\tvs (mty f (M++[(a,t)]))=tvs (mty f M)++[tv (f t)]/\(!(M++[(a,t)]).isEmpty)=true:=by
 refine ⟨?_,?_,?_⟩
 ·unfold aa3 mnm;rw [List.map_append,List.map_append];rfl
 ·unfold mty;rw [as0,as0,List.map_append,List.map_append];rfl
 ·cases M<;>rfl
theorem q_L0 (hp:psOk ps)(hl:ps.length<=30){N:List Mb}(hN:(ps.filter (selR false)).map (fun p=>(p.nm,p.ty))=N):∀j i:Nat,i+j=ps.length->∀M:List Mb,M=((ps.take i).filter (selR false)).map (fun p=>(p.nm,p.ty))->af5.L0 RZ pf (pavs ps) ps.length i [] [] [] [] (!M.isEmpty) (aa3 (mnm M)) (!M.isEmpty) (tvs (mty rc M)) [] []=some (.ret [tv (wT rc false N)] [])
 | 0,i,h,M,hM=>by
  obtain rfl:i=ps.length:=by omega
  rw [List.take_length,hN] at hM
  subst hM
  apply af5.ag6
  unfold af5.L0b wT
  rw [ad9,cond_false,ad8,show (mty rc M).length=M.length from List.length_map _]
  cases M with
  | nil=>rfl
  | cons x r=>
   rw [show ((((x::r:List Mb).length:Nat):Int)==z0)=false from beq_eq_false_iff_ne.2 (by show ¬(((x::r:List Mb).length:Nat):Int)=0;simp;omega),cond_false,if_neg (by simp),tv]
   rfl
 | j+1,i,h,M,hM=>by
  obtain ⟨p,hp0⟩:=getL (l:=ps) (i:=i) (by omega)
  have ih:=q_L0 hp hl hN j (i+1) (by omega)
  have hpo:=hp p (List.mem_of_getElem? hp0)
  have hlen:M.length<=1000:=by
   rw [hM,List.length_map]
   have:=List.length_filter_le (selR false) (ps.take i)
   rw [List.length_take] at this
   omega
  have hc:=rcp_is hpo.2
  have hn:=aB3 p.ty
  have hno:=ad6 (rc p.ty)
  have hpa:=aS5 hp0
  have hsel:([p].filter (selR false)).map (fun p=>(p.nm,p.ty))=bif selR false p then [(p.nm,p.ty)] else []:=by
   cases hs:selR false p<;>simp [hs]
  have ih2:=ih (M++bif selR false p then [(p.nm,p.ty)] else []) (by rw [ah5 hp0,List.filter_append,List.map_append,←hM,hsel])
  have hms:=mty_snoc rc M p.nm p.ty
  have l1:(aa3 (mnm M)).length<=1000:=by rw [ae8];unfold mnm;rw [List.length_map];exact hlen
  have l2:(tvs (mty rc M)).length<=1000:=by rw [ad8];unfold mty;rw [List.length_map];exact hlen
  have hs0:selR false p=(p.way !=2):=rfl
  rw [hs0] at ih2
  obtain ⟨pn,pw,k,id,tn,n,mm,f1,ns,f2,ks,f3,ls,f4,ch⟩:=p
  simp only [pav,tcs] at hpa
  rw [tcs] at hc hn
  rw [rc] at hc hno hms
  rw [tv] at hc hno hms
  simp only at ih2 hms
  apply af5.ag6
  unfold af5.L0b
  rw [af3 (by omega),cond_true]
  simp -implicitDefEqProofs only [hpa,ah7,aC_v,aS_v,aI_v,aL_v,aN_v]
  cases hw:(pw !=2) with
  | false=>
   rw [hw,cond_false,List.append_nil] at ih2
   rw [cond_false]
   apply af5.an7
   unfold af5.J1b
   rw [w6_1 (show i<9223372036854775807 by omega)]
   exact ih2
  | true=>
   rw [hw,cond_true,hms.1,hms.2.1,hms.2.2] at ih2
   rw [cond_true,as8 (by simp;omega) (by omega)]
   simp -implicitDefEqProofs only [vS,hn,ck,cond_true]
   rw [cP_v hc hno]
   simp -implicitDefEqProofs only [aA_v,aC_v,aI_v,aS_v,aL_v,aN_v]
   rw [as8 (by simp;omega) (by omega),or_ne,or_ne]
   apply af5.an7
   unfold af5.J1b
   rw [w6_1 (show i<9223372036854775807 by omega)]
   exact ih2
theorem a_L1 (hp:psOk ps)(hl:ps.length<=30){M0 N:List Mb}(hM0:M0.length<=1)(hN:M0++(ps.filter (selR true)).map (fun p=>(p.nm,p.ty))=N):∀j i:Nat,i+j=ps.length->∀M:List Mb,M=M0++((ps.take i).filter (selR true)).map (fun p=>(p.nm,p.ty))->af1.L1 RZ pf (pavs ps) ps.length i [] [] [] [] (!M.isEmpty) (aa3 (mnm M)) (!M.isEmpty) (tvs (mty rc M)) [] []=some (.ret [tv (wT rc true N)] [])
 | 0,i,h,M,hM=>by
  obtain rfl:i=ps.length:=by omega
  rw [List.take_length,hN] at hM
  subst hM
  apply af1.ak4
  unfold af1.L1b wT
  rw [ad9,cond_false,ad8,show (mty rc M).length=M.length from List.length_map _]
  cases M with
  | nil=>rfl
  | cons x r=>
   rw [show ((((x::r:List Mb).length:Nat):Int)==z0)=false from beq_eq_false_iff_ne.2 (by show ¬(((x::r:List Mb).length:Nat):Int)=0;simp;omega),cond_false,if_neg (by simp),tv]
   rfl
 | j+1,i,h,M,hM=>by
  obtain ⟨p,hp0⟩:=getL (l:=ps) (i:=i) (by omega)
  have ih:=a_L1 hp hl hM0 hN j (i+1) (by omega)
  have hpo:=hp p (List.mem_of_getElem? hp0)
  have hlen:M.length<=1000:=by
   rw [hM,List.length_append,List.length_map]
   have:=List.length_filter_le (selR true) (ps.take i)
   rw [List.length_take] at this
   omega
  have hc:=rcp_is hpo.2
  have hn:=aB3 p.ty
  have hno:=ad6 (rc p.ty)
  have hpa:=aS5 hp0
  have hsel:([p].filter (selR true)).map (fun p=>(p.nm,p.ty))=bif selR true p then [(p.nm,p.ty)] else []:=by
   cases hs:selR true p<;>simp [hs]
  have ih2:=ih (M++bif selR true p then [(p.nm,p.ty)] else []) (by rw [ah5 hp0,List.filter_append,List.map_append,←List.append_assoc,←hM,hsel])
  have hms:=mty_snoc rc M p.nm p.ty
  have l1:(aa3 (mnm M)).length<=1000:=by rw [ae8];unfold mnm;rw [List.length_map];exact hlen
  have l2:(tvs (mty rc M)).length<=1000:=by rw [ad8];unfold mty;rw [List.length_map];exact hlen
  have hs0:selR true p=(p.way !=z1):=rfl
  rw [hs0] at ih2
  obtain ⟨pn,pw,k,id,tn,n,mm,f1,ns,f2,ks,f3,ls,f4,ch⟩:=p
  simp only [pav,tcs] at hpa
  rw [tcs] at hc hn
  rw [rc] at hc hno hms
  rw [tv] at hc hno hms
  simp only at ih2 hms
  apply af1.ak4
  unfold af1.L1b
  rw [af3 (by omega),cond_true]
  simp -implicitDefEqProofs only [hpa,ah7,aC_v,aS_v,aI_v,aL_v,aN_v]
  cases hw:(pw !=z1) with
  | false=>
   rw [hw,cond_false,List.append_nil] at ih2
   rw [cond_false]
   apply af1.ak5
   unfold af1.J2b
   rw [w6_1 (show i<9223372036854775807 by omega)]
   exact ih2
  | true=>
   rw [hw,cond_true,hms.1,hms.2.1,hms.2.2] at ih2
   rw [cond_true,as8 (by simp;omega) (by omega)]
   simp -implicitDefEqProofs only [vS,hn,ck,cond_true]
   rw [cP_v hc hno]
   simp -implicitDefEqProofs only [aA_v,aC_v,aI_v,aS_v,aL_v,aN_v]
   rw [as8 (by simp;omega) (by omega),or_ne,or_ne]
   apply af1.ak5
   unfold af1.J2b
   rw [w6_1 (show i<9223372036854775807 by omega)]
   exact ih2
end
theorem question_is {o:Opn}(hp:psOk o.ps)(hl:o.ps.length<=30):RZ.R aE9 [opv o] []=some (.ret [tv (wT rc false (mbsR false o))] []):=by
 have h:=q_L0 (pf:=o.pf) hp hl (N:=mbsR false o) (by unfold mbsR;rw [Bool.false_and,cond_false,List.nil_append]) o.ps.length 0 (by omega) [] rfl
 generalize wT rc false (mbsR false o)=W at h ⊢
 obtain ⟨onm,ow,⟨k,id,tn,n,mm,f1,ns,f2,ks,f3,ls,f4,ch⟩,pf,ps,rf,rs⟩:=o
 unfold opv
 simp only [tcs,List.cons_append,List.nil_append]
 apply af5.b_of
 unfold af5.b
 rw [as2]
 exact h
theorem answer_is {o:Opn}(hp:psOk o.ps)(hg:gOk o.res)(hl:o.ps.length<=30):RZ.R aN2 [opv o] []=some (.ret [tv (wT rc true (mbsR true o))] []):=by
 have h:=a_L1 (pf:=o.pf) hp hl (M0:=bif o.res.kd !=0 then [(ax4,o.res)] else []) (N:=mbsR true o) (by cases (o.res.kd !=0)<;>simp) (by unfold mbsR;rw [Bool.true_and]) o.ps.length 0 (by omega) _ (by rw [List.take_zero,List.filter_nil,List.map_nil,List.append_nil])
 generalize wT rc true (mbsR true o)=W at h ⊢
 have hc:=rcp_is hg
 have hn:=aB3 o.res
 have hno:=ad6 (rc o.res)
 obtain ⟨onm,ow,⟨k,id,tn,n,mm,f1,ns,f2,ks,f3,ls,f4,ch⟩,pf,ps,rf,rs⟩:=o
 simp only [Ty.kd] at h hc hn hno hp hl
 rw [tcs] at hc hn
 rw [rc] at hc hno
 rw [tv] at hc hno
 unfold opv
 simp only [tcs,List.cons_append,List.nil_append]
 have J0:∀m1 e1 m2 e2,af1.L1 RZ pf (pavs ps) ps.length z0 [] [] [] [] m1 e1 m2 e2 [] []=some (.ret [tv W] [])->af1.J0 RZ onm ow k id tn n mm f1 (aa3 ns) f2 (tvs ks) f3 (lvs ls) f4 (cvs ch) pf (pavs ps) rf (tvs rs) [] [] [] [] m1 e1 m2 e2 [] []=some (.ret [tv W] []):=by
  intro m1 e1 m2 e2 h
  apply af1.ad0
  unfold af1.J0b
  rw [as2]
  exact h
 apply af1.b_of
 unfold af1.b
 cases hk:(k !=z0) with
 | false=>
  rw [show (k !=0)=false from hk,cond_false] at h
  rw [cond_false]
  exact J0 _ _ _ _ h
 | true=>
  rw [show (k !=0)=true from hk,cond_true] at h
  rw [cond_true,as8 (by simp) (by omega)]
  simp -implicitDefEqProofs only [vS,hn,ck,cond_true]
  rw [cP_v hc hno]
  simp -implicitDefEqProofs only [aA_v,aC_v,aI_v,aS_v,aL_v,aN_v]
  rw [as8 (by simp) (by omega)]
  refine J0 _ _ _ _ ?_
  rw [show mty rc [(ax4,Ty.mk k id tn n mm f1 ns f2 ks f3 ls f4 ch)]=[rc (.mk k id tn n mm f1 ns f2 ks f3 ls f4 ch)] from rfl,tvs,tvs,rc,tv] at h
  exact h
theorem taken_is {t:Ty}(hg:gOk t):RZ.R aD1 [.agg (tcs t)] []=some (.ret [tv (if rVB t=true then t else Ty0),.int .i64 (if rVB t=true then 0 else 4)] []):=by
 have hv:=bc7 hg
 have hn:=aB3 t
 obtain ⟨k,id,nm,n,m,f1,ns,f2,ks,f3,ls,f4,ch⟩:=t
 rw [tcs] at hv hn ⊢
 apply aX9.b_of
 unfold aX9.b
 simp -implicitDefEqProofs only [vI,hn,ck,cond_true,hv,cP_B,aB_v]
 cases rVB (.mk k id nm n m f1 ns f2 ks f3 ls f4 ch) with
 | false=>rfl
 | true=>rw [Bool.not_true,cond_false,if_pos rfl,tv];rfl
theorem bn1 (o:Opn):aa0 [opv o]=true:=by show (ad1 (opv o)&&_)=true;rw [bA4];rfl
theorem mbsR_ok {o:Opn}(ho:mOk o)(ans:Bool):(mbsR ans o).length<=1000/\∀x∈mbsR ans o,sOk x.1/\gOk x.2:=by
 obtain ⟨⟨a1,a2,a3,a4,a5,a6,a7,a8⟩,a9⟩:=ho
 unfold mbsR
 constructor
 ·rw [List.length_append,List.length_map]
  have:=List.length_filter_le (selR ans) o.ps
  have h1:(bif ans&&o.res.kd !=0 then [(ax4,o.res)] else []:List Mb).length<=1:=by cases (ans&&o.res.kd !=0)<;>simp
  omega
 ·intro x hx
  rcases List.mem_append.1 hx with h | h
  ·cases hb:(ans&&o.res.kd !=0) with
   | false=>rw [hb] at h;cases h
   | true=>
    rw [hb,cond_true,List.mem_singleton] at h
    rw [h]
    exact ⟨by show sOk ax4;unfold sOk ax4;decide,a2⟩
  ·obtain ⟨p,hp,rfl⟩:=List.mem_map.1 h
   exact a3 p (List.mem_filter.1 hp).1
theorem bu2 {o:Opn}(ho:mOk o):RZ.R aF0 [opv o] []=some (.ret [tv (tyR rc false o (mbsR false o)).1,.int .i64 (tyR rc false o (mbsR false o)).2] []):=by
 have hv:=aE7 ho.1
 obtain ⟨hM,hx⟩:=mbsR_ok ho false
 have hq:=question_is ho.1.2.2.1 ho.2
 have ht:=taken_is (g_wT (f:=rc) g_rc (ans:=false) hM hx)
 have hn:=bn1 o
 have hno:=ad6 (wT rc false (mbsR false o))
 have hnt:=aB3 (wT rc false (mbsR false o))
 unfold tyR
 generalize wT rc false (mbsR false o)=W at hq ht hno hnt ⊢
 generalize vopB o=vb at hv ⊢
 have hno2:aa0 [tv (if rVB W=true then W else Ty0),.int .i64 (if rVB W=true then 0 else 4)]=true:=by
  show (ad1 (tv _)&&_)=true
  rw [ad6];rfl
 rw [show (if rVB W=true then (W,(0:Int)) else (Ty0,4))=((if rVB W=true then W else Ty0),(if rVB W=true then 0 else 4)) by split<;>rfl]
 generalize (if rVB W=true then W else Ty0)=T at ht hno2 ⊢
 generalize (if rVB W=true then (0:Int) else 4)=e at ht hno2 ⊢
 obtain ⟨k',id',nm',n',m',g1,ns',g2,ks',g3,ls',g4,ch'⟩:=W
 obtain ⟨k2,id2,nm2,n2,m2,h1,ns2,h2,ks2,h3,ls2,h4,ch2⟩:=T
 obtain ⟨onm,ow,⟨k,id,tn,n,mm,f1,ns,f2,ks,f3,ls,f4,ch⟩,pf,ps,rf,rs⟩:=o
 unfold opv at hv hq hn ⊢
 simp only [tcs,List.cons_append,List.nil_append,tv] at hv hq hn ht hno hnt hno2 ⊢
 apply aN0.b_of
 unfold aN0.b
 simp -implicitDefEqProofs only [vA,vS,vB,vI,vL,hn,ck,cond_true,hv,cP_B,aB_v]
 cases vb with
 | false=>rfl
 | true=>
  rw [Bool.not_true,cond_false,cP_v hq hno]
  simp -implicitDefEqProofs only [aA_v,aC_v,aI_v,aS_v,aL_v,aN_v,hnt,cond_true]
  rw [au7 ht hno2]
  simp -implicitDefEqProofs only [show ∀l K,aT (V.tup l) K=K l from fun _ _=>rfl,aA_v,aC_v,aI_v,aS_v,aL_v,aN_v,aq6,if_true,tv]
theorem bz5 {o:Opn}(ho:mOk o):RZ.R aN3 [opv o] []=some (.ret [tv (tyR rc true o (mbsR true o)).1,.int .i64 (tyR rc true o (mbsR true o)).2] []):=by
 have hv:=aE7 ho.1
 obtain ⟨hM,hx⟩:=mbsR_ok ho true
 have hq:=answer_is ho.1.2.2.1 ho.1.2.1 ho.2
 have ht:=taken_is (g_wT (f:=rc) g_rc (ans:=true) hM hx)
 have hn:=bn1 o
 have hno:=ad6 (wT rc true (mbsR true o))
 have hnt:=aB3 (wT rc true (mbsR true o))
 unfold tyR
 generalize wT rc true (mbsR true o)=W at hq ht hno hnt ⊢
 generalize vopB o=vb at hv ⊢
 have hno2:aa0 [tv (if rVB W=true then W else Ty0),.int .i64 (if rVB W=true then 0 else 4)]=true:=by
  show (ad1 (tv _)&&_)=true
  rw [ad6];rfl
 rw [show (if rVB W=true then (W,(0:Int)) else (Ty0,4))=((if rVB W=true then W else Ty0),(if rVB W=true then 0 else 4)) by split<;>rfl]
 generalize (if rVB W=true then W else Ty0)=T at ht hno2 ⊢
 generalize (if rVB W=true then (0:Int) else 4)=e at ht hno2 ⊢
 obtain ⟨k',id',nm',n',m',g1,ns',g2,ks',g3,ls',g4,ch'⟩:=W
 obtain ⟨k2,id2,nm2,n2,m2,h1,ns2,h2,ks2,h3,ls2,h4,ch2⟩:=T
 obtain ⟨onm,ow,⟨k,id,tn,n,mm,f1,ns,f2,ks,f3,ls,f4,ch⟩,pf,ps,rf,rs⟩:=o
 unfold opv at hv hq hn ⊢
 simp only [tcs,List.cons_append,List.nil_append,tv] at hv hq hn ht hno hnt hno2 ⊢
 apply aT9.b_of
 unfold aT9.b
 simp -implicitDefEqProofs only [vA,vS,vB,vI,vL,hn,ck,cond_true,hv,cP_B,aB_v]
 cases vb with
 | false=>rfl
 | true=>
  rw [Bool.not_true,cond_false,cP_v hq hno]
  simp -implicitDefEqProofs only [aA_v,aC_v,aI_v,aS_v,aL_v,aN_v,hnt,cond_true]
  rw [au7 ht hno2]
  simp -implicitDefEqProofs only [show ∀l K,aT (V.tup l) K=K l from fun _ _=>rfl,aA_v,aC_v,aI_v,aS_v,aL_v,aN_v,aq6,if_true,tv]
end Go.Proofs.YtflhfchgdpbhcaaGreat.E
set_option maxRecDepth 100000
namespace Go.Proofs.YtflhfchgdpbhcaaGreat.E
open Go
theorem bv6 {n:Int}{ls ls':List (Bool×List Int)}(h:ls.map (·.2)=ls'.map (·.2)):∀k i,empF n ls k i=empF n ls' k i
 | 0,_=>rfl
 | k+1,i=>by
  rw [empF,empF,bv6 h k (i+1)]
  have e:=congrArg (fun l=>l[i]?) h
  simp only [List.getElem?_map] at e
  cases h1:ls[i]? with
  | none=>
   rw [h1] at e
   cases h2:ls'[i]? with
   | none=>rfl
   | some y=>rw [h2] at e;cases e
  | some x=>
   rw [h1] at e
   cases h2:ls'[i]? with
   | none=>rw [h2] at e;cases e
   | some y=>
    rw [h2] at e
    simp at e
    simp only [e]
theorem flat_congr {ls ls':List (Bool×List Int)}(h:ls.map (·.2)=ls'.map (·.2)):flat ls=flat ls':=by
 have e:∀l:List (Bool×List Int),flat l=(l.map (·.2)).flatten:=by
  intro l
  unfold flat
  induction l with
  | nil=>rfl
  | cons x r ih=>rw [List.flatMap_cons,ih];rfl
 rw [e,e,h]
theorem sTs_len {l l':List Ty}(h:sTs l l'):l.length=l'.length:=(by6 h).1
theorem unT_congr {vt:Bool}{ns:List ByteArray}{n:Int}{ls ls':List (Bool×List Int)}(h:ls.map (·.2)=ls'.map (·.2)):∀{ks ks':List Ty},sTs ks ks'->unT vt ns n ls ks=unT vt ns n ls' ks'
 | [],[],_=>rfl
 | .mk tk a1 a2 a3 a4 a5 tns a6 a7 a8 a9 b1 b2::r,.mk tk' c1 c2 c3 c4 c5 tns' c6 c7 c8 c9 d1 d2::r',hs=>by
  rw [sTs,sT] at hs
  obtain ⟨⟨⟨rfl,_,_,_,_,rfl,_,_⟩,_⟩,hr⟩:=hs
  have hl:ls.length=ls'.length:=by have:=congrArg List.length h;simpa using this
  rw [unT,unT]
  unfold unB
  rw [flat_congr h,hl,bv6 h,sTs_len hr]
 | [],_::_,h=>by rw [sTs] at h;exact h.elim;all_goals simp
 | _::_,[],h=>by rw [sTs] at h;exact h.elim;all_goals simp
mutual
theorem rvB_sT :∀t t',sT t t'->∀A d,rvB t A d=rvB t' A d
 | .mk k id nm n m f1 ns f2 ks f3 ls f4 ch,.mk k' id' nm' n' m' g1 ns' g2 ks' g3 ls' g4 ch',h,A,d=>by
  rw [sT] at h
  obtain ⟨⟨rfl,rfl,rfl,rfl,rfl,rfl,h7,rfl⟩,h9⟩:=h
  have i1:=rtB_sT ks ks' h9
  have i2:=rvsB_sT ks ks' h9 (insA A k id) (d+1)
  have hl:ls.length=ls'.length:=by have:=congrArg List.length h7;simpa using this
  have hk:=sTs_len h9
  rw [rvB,rvB,i1,i2]
  congr 1
  unfold ownB
  rw [hk,unT_congr h7 h9]
  unfold af4 eL
  rw [ad8,ad8,aq7,aq7,hk,hl]
theorem rtB_sT :∀l l',sTs l l'->rtB l=rtB l'
 | [],[],_=>rfl
 | t::r,t'::r',h=>by
  rw [sTs] at h
  rw [rtB,rtB]
  exact rvB_sT t t' h.1 [] 1
 | [],_::_,h=>by rw [sTs] at h;exact h.elim;all_goals simp
 | _::_,[],h=>by rw [sTs] at h;exact h.elim;all_goals simp
theorem rvsB_sT :∀l l',sTs l l'->∀A d,rvsB l A d=rvsB l' A d
 | [],[],_,_,_=>rfl
 | t::r,t'::r',h,A,d=>by
  rw [sTs] at h
  rw [rvsB,rvsB,rvB_sT t t' h.1 A d,rvsB_sT r r' h.2 A d]
 | [],_::_,h,_,_=>by rw [sTs] at h;exact h.elim;all_goals simp
 | _::_,[],h,_,_=>by rw [sTs] at h;exact h.elim;all_goals simp
end
mutual
theorem cnT_sT :∀t t',sT t t'->∀d n,cnT t d n=cnT t' d n
 | .mk k id nm n m f1 ns f2 ks f3 ls f4 ch,.mk k' id' nm' n' m' g1 ns' g2 ks' g3 ls' g4 ch',h,d,p=>by
  rw [sT] at h
  rw [cnT,cnT,cnL_sT ks ks' h.2]
theorem cnL_sT :∀l l',sTs l l'->∀d n,cnL l d n=cnL l' d n
 | [],[],_,_,_=>rfl
 | t::r,t'::r',h,d,p=>by
  rw [sTs] at h
  rw [cnL,cnL,cnT_sT t t' h.1,cnL_sT r r' h.2]
 | [],_::_,h,_,_=>by rw [sTs] at h;exact h.elim;all_goals simp
 | _::_,[],h,_,_=>by rw [sTs] at h;exact h.elim;all_goals simp
end
theorem rVB_sT {t t':Ty}(h:sT t t'):rVB t=rVB t':=by
 unfold rVB smB
 rw [cnT_sT t t' h,rvB_sT t t' h]
theorem mty_sT :∀M:List Mb,sTs (mty kc M) (mty rc M)
 | []=>trivial
 | x::r=>by
  show sTs (kc x.2::mty kc r) (rc x.2::mty rc r)
  rw [sTs]
  exact ⟨kc_sT _ _ (rc_sT x.2),mty_sT r⟩
theorem wT_sT (ans:Bool)(M:List Mb):sT (wT kc ans M) (wT rc ans M):=by
 unfold wT
 split
 ·unfold Ty0
  rw [sT]
  exact ⟨⟨rfl,rfl,rfl,rfl,rfl,rfl,rfl,rfl⟩,trivial⟩
 ·rw [sT]
  exact ⟨⟨rfl,rfl,rfl,rfl,rfl,rfl,rfl,rfl⟩,mty_sT M⟩
theorem Ty0_sT :sT Ty0 Ty0:=by
 unfold Ty0
 rw [sT]
 exact ⟨⟨rfl,rfl,rfl,rfl,rfl,rfl,rfl,rfl⟩,trivial⟩
theorem tyR_sT (ans:Bool)(o:Opn):sT (tyR kc ans o (mbs ans o)).1 (tyR rc ans o (mbsR ans o)).1/\(tyR kc ans o (mbs ans o)).2=(tyR rc ans o (mbsR ans o)).2:=by
 unfold tyR
 cases hv:vopB o with
 | false=>exact ⟨Ty0_sT,rfl⟩
 | true=>
  rw [if_pos rfl,if_pos rfl,mbs_eq hv,rVB_sT (wT_sT ans (mbs ans o))]
  cases rVB (wT rc ans (mbs ans o)) with
  | false=>exact ⟨Ty0_sT,rfl⟩
  | true=>exact ⟨wT_sT ans _,rfl⟩
theorem g_tyR {o:Opn}(ho:mOk o)(ans:Bool):gOk (tyR kc ans o (mbs ans o)).1:=by
 obtain ⟨hM,hx⟩:=mbs_ok ho ans
 have h0:gOk Ty0:=by
  have:=g_wT (f:=kc) g_kc (ans:=ans) (M:=[]) (by simp) (fun _ h=>by cases h)
  exact this
 unfold tyR
 split
 ·split
  ·exact g_wT g_kc hM hx
  ·exact h0
 ·exact h0
def awT (k:Int):Ty:=.mk k ⟨#[]⟩ ⟨#[]⟩ 0 0 false [] false [] false [] false []
def awO :Opn:=⟨⟨#[102]⟩,false,awT 5,true,[⟨⟨#[97]⟩,1,awT 7⟩,⟨⟨#[98]⟩,2,awT 5⟩],false,[]⟩
theorem aw_ok :mOk awO:=by
 have g:∀k,gOk (awT k):=fun k=>⟨⟨by unfold sOk;decide,by unfold sOk;decide,(fun _ h=>by cases h),(fun _ h=>by cases h)⟩,⟨by simp,by simp,by simp,by simp,by decide⟩,⟨fun _=>rfl,fun _=>rfl,fun _=>rfl,fun _=>rfl,(fun _ h=>by cases h)⟩,trivial⟩
 refine ⟨⟨by decide,g 5,?_,trivial,(fun h=>by cases h),fun _=>rfl,by decide,by decide⟩,by decide⟩
 intro p hp
 rcases List.mem_cons.1 hp with e | hp
 ·rw [e];exact ⟨by unfold sOk;decide,g 7⟩
 ·rcases List.mem_cons.1 hp with e | hp
  ·rw [e];exact ⟨by unfold sOk;decide,g 5⟩
  ·cases hp
theorem aw_q :tyR kc false awO (mbs false awO)=(wT kc false [(⟨#[97]⟩,awT 7)],0):=by kernel_rfl
theorem aw_a :tyR kc true awO (mbs true awO)=(wT kc true [(ax4,awT 5),(⟨#[98]⟩,awT 5)],0):=by kernel_rfl
theorem awake_is :RZ.R aD2 [] []=some (.ret [.bool true] []):=by
 have hq:=aV3 aw_ok
 have ha:=ba3 aw_ok
 have nq:aa0 [tv (tyR kc false awO (mbs false awO)).1,.int .i64 (tyR kc false awO (mbs false awO)).2]=true:=by show (ad1 (tv _)&&_)=true;rw [ad6];rfl
 have na:aa0 [tv (tyR kc true awO (mbs true awO)).1,.int .i64 (tyR kc true awO (mbs true awO)).2]=true:=by show (ad1 (tv _)&&_)=true;rw [ad6];rfl
 have hn:=bn1 awO
 rw [aw_q] at hq nq
 rw [aw_a] at ha na
 have e1:opv awO=vA [(vS (⟨#[102]⟩:ByteArray)),(vB false),(vI 5),(vS (⟨#[]⟩:ByteArray)),(vS (⟨#[]⟩:ByteArray)),(vI 0),(vI 0),(vL false 1 []),(vL false 9 []),(vL false 1 []),(vL false 3 []),(vL true 11 [(vA [(vS (⟨#[97]⟩:ByteArray)),(vI 1),(vI 7),(vS (⟨#[]⟩:ByteArray)),(vS (⟨#[]⟩:ByteArray)),(vI 0),(vI 0),(vL false 1 []),(vL false 9 []),(vL false 1 []),(vL false 3 [])]),(vA [(vS (⟨#[98]⟩:ByteArray)),(vI 2),(vI 5),(vS (⟨#[]⟩:ByteArray)),(vS (⟨#[]⟩:ByteArray)),(vI 0),(vI 0),(vL false 1 []),(vL false 9 []),(vL false 1 []),(vL false 3 [])])]),(vL false 9 [])]:=rfl
 rw [e1] at hq ha hn
 have t1:tv (wT kc false [(⟨#[97]⟩,awT 7)])=.agg [.int .i64 10,.str (wid false),.str (wnm false),.int .i64 0,.int .i64 0,.list true 1 [.str ⟨#[97]⟩],.list true 9 (tvs [kc (awT 7)]),.list false 1 [],.list false 3 []]:=rfl
 have t2:tv (wT kc true [(ax4,awT 5),(⟨#[98]⟩,awT 5)])=.agg [.int .i64 10,.str (wid true),.str (wnm true),.int .i64 0,.int .i64 0,.list true 1 [.str ax4,.str ⟨#[98]⟩],.list true 9 (tvs [kc (awT 5),kc (awT 5)]),.list false 1 [],.list false 3 []]:=rfl
 simp only [t1] at hq nq
 simp only [t2] at ha na
 have J0:aC5.J0 RZ true=some (.ret [.bool true] []):=aC5.ad0 true rfl
 apply aC5.b_of
 unfold aC5.b
 rw [hn]
 simp only [ck,cond_true]
 rw [au7 hq nq]
 simp -implicitDefEqProofs only [show ∀l K,aT (V.tup l) K=K l from fun _ _=>rfl,aA_v,aC_v,aI_v,aS_v,aL_v,aN_v]
 rw [au7 ha na]
 simp -implicitDefEqProofs only [show ∀l K,aT (V.tup l) K=K l from fun _ _=>rfl,aA_v,aC_v,aI_v,aS_v,aL_v,aN_v]
 rw [show ((0:Int)==z0)=true from rfl,cond_true,show (((([V.str ⟨#[97]⟩]:List V).length:Nat):Int)==z1)=true from rfl,cond_true]
 rw [show z0=((0:Nat):Int) from rfl,as5 (i:=0) (v:=.str ⟨#[97]⟩) rfl]
 simp -implicitDefEqProofs only [aH7,aC_v,aS_v,aN_v,strB,decide_true,cond_true]
 rw [show (((([V.str ax4,V.str ⟨#[98]⟩]:List V).length:Nat):Int)==(2:Int))=true from rfl,cond_true]
 rw [as5 (i:=0) (v:=.str ax4) rfl]
 simp -implicitDefEqProofs only [aH7,aC_v,aS_v,aN_v]
 rw [show decide (ax4=(⟨#[118,111,105,100]⟩:ByteArray))=true from decide_eq_true rfl,cond_true,show z1=((1:Nat):Int) from rfl,as5 (i:=1) (v:=.str ⟨#[98]⟩) rfl]
 simp -implicitDefEqProofs only [aH7,aC_v,aS_v,aN_v,decide_true]
 exact J0
end Go.Proofs.YtflhfchgdpbhcaaGreat.E
set_option maxRecDepth 100000
namespace Go.Proofs.YtflhfchgdpbhcaaGreat.E
open Go
def suS :List ByteArray->Nat
 | []=>0
 | s::r=>s.size / 40+suS r
def suL :List (Bool×List Int)->Nat
 | []=>0
 | l::r=>l.2.length+suL r
def suP :List Pt->Nat
 | []=>0
 | p::r=>p.1.size / 40+suP r
def ow0 (id nm:ByteArray)(ns:List ByteArray)(ls:List (Bool×List Int))(ch:List Pt):Nat:=1+ns.length+ls.length+ch.length+(id.size+nm.size) / 40
def owT (id nm:ByteArray)(ns:List ByteArray)(ls:List (Bool×List Int))(ch:List Pt):Nat:=ow0 id nm ns ls ch+(suS ns+(suL ls+suP ch))
mutual
def smT :Ty->Nat->Nat->Bool×Nat
 | .mk _ id nm _ _ _ ns _ ks _ ls _ ch,d,n=>if 800<n+owT id nm ns ls ch∨40<d then (false,n+owT id nm ns ls ch) else smL ks (d+1) (n+owT id nm ns ls ch)
def smL :List Ty->Nat->Nat->Bool×Nat
 | [],_,n=>(true,n)
 | t::r,d,n=>if (smT t d n).1=true then smL r d (smT t d n).2 else (false,(smT t d n).2)
end
mutual
def wOk :Ty->Prop
 | .mk _ id nm _ _ f1 ns f2 ks f3 ls f4 ch=>(id.size<=10000000/\nm.size<=10000000/\(∀x∈ns,x.size<=10000000)/\(∀p∈ch,p.1.size<=10000000)/\owT id nm ns ls ch<=100000000/\ks.length<=100000000)/\((f1=false->ns=[])/\(f2=false->ks=[])/\(f3=false->ls=[])/\(f4=false->ch=[])/\(∀l∈ls,l.1=false->l.2=[]))/\wsOk ks
def wsOk :List Ty->Prop
 | []=>True
 | t::r=>wOk t/\wsOk r
end
theorem ws_mem :∀{l:List Ty} {t:Ty},wsOk l->t∈l->wOk t
 | a::r,t,h,hm=>by
  rcases List.mem_cons.1 hm with e | hm
  ·rw [e];exact h.1
  ·exact ws_mem h.2 hm
theorem bq5 (a:Nat):((a:Nat):Int).tdiv 40=((a / 40:Nat):Int):=rfl
def Cl (s:List O)(i n:Nat):Prop:=s[i]? =some (.box [(.int .i64 (n:Int),false)])
theorem Cl.put {s:List O}{i n:Nat}(h:Cl s i n)(m:Nat):Cl (s.set i (.box [(.int .i64 (m:Int),false)])) i m:=by
 unfold Cl at *
 rw [List.getElem?_set_self (List.getElem?_eq_some_iff.1 h).1]
theorem Cl.wr {s:List O}{i n:Nat}(h:Cl s i n){x:Int}{m:Nat}(hx:x=(m:Int))(K:List O->R):wrO s i 0 [(.int .i64 x,false)] K=K (s.set i (.box [(.int .i64 (m:Int),false)])):=by
 rw [hx]
 exact aX1 h K
theorem Cl.rd {s:List O}{i n:Nat}(h:Cl s i n)(K:V->R):rd1 s i 0 K=K (.int .i64 (n:Int)):=ax5 h rfl K
section
variable {d k:Int} {i:Nat} {id nm:ByteArray} {n m:Int} {f1 f2 f3 f4:Bool} {ns:List ByteArray} {ks:List Ty} {ls:List (Bool×List Int)} {ch:List Pt}
theorem sm_L2 (hl:ch.length<=100000000){c:Nat}(hc:c<=200000000){r:Bool×Nat}(h3:∀s,Cl s i c->∃s',ac2.J3 RZ d i 0 k id nm n m f1 (aa3 ns) f2 (tvs ks) f3 (lvs ls) f4 (cvs ch) (decide (800<c)||decide (d>40)) s=some (.ret [.bool r.1] s')/\Cl s' i r.2):∀j x:Nat,x+j=ch.length->∀c0,c0+suP (ch.drop x)=c->∀s,Cl s i c0->∃s',ac2.L2 RZ d i 0 k id nm n m f1 (aa3 ns) f2 (tvs ks) f3 (lvs ls) f4 (cvs ch) f4 (cvs ch) ch.length x s=some (.ret [.bool r.1] s')/\Cl s' i r.2
 | 0,x,h,c0,h0,s,hs=>by
  obtain rfl:x=ch.length:=by omega
  rw [List.drop_length,suP,Nat.add_zero] at h0
  subst h0
  obtain ⟨s',e1,e2⟩:=h3 s hs
  refine ⟨s',?_,e2⟩
  apply ac2.L2_of
  unfold ac2.L2b
  rw [ad9,cond_false,hs.rd,aI_v,show decide ((c0:Int)>800)=decide (800<c0) by by_cases h:800<c0<;>simp [h]<;>omega]
  cases hb:decide (800<c0) with
  | true=>rw [cond_true];rw [hb,Bool.true_or] at e1;exact e1
  | false=>rw [cond_false];rw [hb,Bool.false_or] at e1;exact e1
 | j+1,x,h,c0,h0,s,hs=>by
  obtain ⟨p,hp⟩:=getL (l:=ch) (i:=x) (by omega)
  rw [am5 hp,suP,←Nat.add_assoc] at h0
  obtain ⟨s',e1,e2⟩:=sm_L2 hl hc h3 j (x+1) (by omega) (c0+p.1.size / 40) h0 _ (hs.put _)
  refine ⟨s',?_,e2⟩
  apply ac2.L2_of
  unfold ac2.L2b
  rw [af3 (by omega),cond_true]
  simp -implicitDefEqProofs only [aN7 hp,pv,ah7,aC_v,aS_v,aI_v,aB_v,aN_v,vI]
  have hx:w6 ((c0:Int)+w6 (((p.1.size:Nat):Int).tdiv 40))=((c0+p.1.size / 40:Nat):Int):=by
   rw [bq5,w6_i (x:=((p.1.size / 40:Nat):Int)) (by omega),w6_i (x:=(c0:Int)+((p.1.size / 40:Nat):Int)) (by omega)];omega
  rw [hs.rd,aI_v,hs.wr hx,w6_1 (show x<9223372036854775807 by omega)]
  exact e1
theorem sm_L1 (hl:ls.length<=100000000){c:Nat}(hc:c<=200000000){r:Bool×Nat}(h2:∀c0,c0+suP ch=c->∀s,Cl s i c0->∃s',ac2.L2 RZ d i 0 k id nm n m f1 (aa3 ns) f2 (tvs ks) f3 (lvs ls) f4 (cvs ch) f4 (cvs ch) ch.length z0 s=some (.ret [.bool r.1] s')/\Cl s' i r.2):∀j x:Nat,x+j=ls.length->∀c0,c0+(suL (ls.drop x)+suP ch)=c->∀s,Cl s i c0->∃s',ac2.L1 RZ d i 0 k id nm n m f1 (aa3 ns) f2 (tvs ks) f3 (lvs ls) f4 (cvs ch) f3 (lvs ls) ls.length x s=some (.ret [.bool r.1] s')/\Cl s' i r.2
 | 0,x,h,c0,h0,s,hs=>by
  obtain rfl:x=ls.length:=by omega
  rw [List.drop_length,suL,Nat.zero_add] at h0
  obtain ⟨s',e1,e2⟩:=h2 c0 h0 s hs
  refine ⟨s',?_,e2⟩
  apply ac2.ak4
  unfold ac2.L1b
  rw [ad9,cond_false,ay0]
  exact e1
 | j+1,x,h,c0,h0,s,hs=>by
  obtain ⟨p,hp⟩:=getL (l:=ls) (i:=x) (by omega)
  rw [am5 hp,suL,Nat.add_assoc,←Nat.add_assoc c0] at h0
  obtain ⟨s',e1,e2⟩:=sm_L1 hl hc h2 j (x+1) (by omega) (c0+p.2.length) h0 _ (hs.put _)
  refine ⟨s',?_,e2⟩
  apply ac2.ak4
  unfold ac2.L1b
  rw [af3 (by omega),cond_true]
  simp -implicitDefEqProofs only [aU2 hp,aP6,aC_v,aL_v,aN_v,vI,am8]
  have hx:w6 ((c0:Int)+(p.2.length:Int))=((c0+p.2.length:Nat):Int):=by
   rw [w6_i (by omega)];omega
  rw [hs.rd,aI_v,hs.wr hx,w6_1 (show x<9223372036854775807 by omega)]
  exact e1
theorem sm_L0 (hl:ns.length<=100000000){c:Nat}(hc:c<=200000000){r:Bool×Nat}(h1:∀c0,c0+(suL ls+suP ch)=c->∀s,Cl s i c0->∃s',ac2.L1 RZ d i 0 k id nm n m f1 (aa3 ns) f2 (tvs ks) f3 (lvs ls) f4 (cvs ch) f3 (lvs ls) ls.length z0 s=some (.ret [.bool r.1] s')/\Cl s' i r.2):∀j x:Nat,x+j=ns.length->∀c0,c0+(suS (ns.drop x)+(suL ls+suP ch))=c->∀s,Cl s i c0->∃s',ac2.L0 RZ d i 0 k id nm n m f1 (aa3 ns) f2 (tvs ks) f3 (lvs ls) f4 (cvs ch) f1 (aa3 ns) ns.length x s=some (.ret [.bool r.1] s')/\Cl s' i r.2
 | 0,x,h,c0,h0,s,hs=>by
  obtain rfl:x=ns.length:=by omega
  rw [List.drop_length,suS,Nat.zero_add] at h0
  obtain ⟨s',e1,e2⟩:=h1 c0 h0 s hs
  refine ⟨s',?_,e2⟩
  apply ac2.ag6
  unfold ac2.L0b
  rw [ad9,cond_false,aq7]
  exact e1
 | j+1,x,h,c0,h0,s,hs=>by
  obtain ⟨p,hp⟩:=getL (l:=ns) (i:=x) (by omega)
  rw [am5 hp,suS,Nat.add_assoc,←Nat.add_assoc c0] at h0
  obtain ⟨s',e1,e2⟩:=sm_L0 hl hc h1 j (x+1) (by omega) (c0+p.size / 40) h0 _ (hs.put _)
  refine ⟨s',?_,e2⟩
  apply ac2.ag6
  unfold ac2.L0b
  rw [af3 (by omega),cond_true]
  simp -implicitDefEqProofs only [az6 hp,aH7,aC_v,aS_v,aN_v,vI]
  have hx:w6 ((c0:Int)+w6 (((p.size:Nat):Int).tdiv 40))=((c0+p.size / 40:Nat):Int):=by
   rw [bq5,w6_i (x:=((p.size / 40:Nat):Int)) (by omega),w6_i (x:=(c0:Int)+((p.size / 40:Nat):Int)) (by omega)];omega
  rw [hs.rd,aI_v,hs.wr hx,w6_1 (show x<9223372036854775807 by omega)]
  exact e1
def SM (t:Ty):Prop:=∀(d n i:Nat) (s:List O),d<=100->n<=800->Cl s i n->∃s',RZ.R ax1 [tv t,.int .i64 (d:Int),.obj i 0] s=some (.ret [.bool (smT t d n).1] s')/\Cl s' i (smT t d n).2
mutual
theorem smT_le :∀(t:Ty) (d n:Nat),(smT t d n).1=true->(smT t d n).2<=800/\n+1<=(smT t d n).2
 | .mk _ id nm _ _ _ ns _ ks _ ls _ ch,d,n=>by
  rw [smT]
  split
  ·intro h;cases h
  ·rename_i hb
   intro h
   obtain ⟨h1,h2⟩:=smL_le ks (d+1) (n+owT id nm ns ls ch) (by omega) h
   refine ⟨h1,?_⟩
   have:1<=owT id nm ns ls ch:=by unfold owT ow0;omega
   omega
theorem smL_le :∀(l:List Ty) (d n:Nat),n<=800->(smL l d n).1=true->(smL l d n).2<=800/\n+l.length<=(smL l d n).2
 | [],d,n,h=>by rw [smL];intro _;exact ⟨h,by simp⟩
 | t::r,d,n,h=>by
  rw [smL]
  split
  ·rename_i h1
   intro h2
   obtain ⟨a1,a2⟩:=smT_le t d n h1
   obtain ⟨b1,b2⟩:=smL_le r d _ a1 h2
   refine ⟨b1,?_⟩
   rw [List.length_cons]
   omega
  ·intro h;cases h
end
theorem sm_L4 (hR:∀t∈ks,SM t)(hl:ks.length<=100000000){d:Nat}(hd:d<=40):∀j x:Nat,x+j=ks.length->∀(n:Nat) s,n<=800->Cl s i n->∃s',ac2.L4 RZ d i 0 f2 (tvs ks) ks.length x s=some (.ret [.bool (smL (ks.drop x) (d+1) n).1] s')/\Cl s' i (smL (ks.drop x) (d+1) n).2
 | 0,x,h,n,s,hn,hs=>by
  obtain rfl:x=ks.length:=by omega
  rw [List.drop_length,smL]
  refine ⟨s,?_,hs⟩
  apply ac2.aE4
  unfold ac2.L4b
  rw [ad9,cond_false]
  rfl
 | j+1,x,h,n,s,hn,hs=>by
  obtain ⟨t,ht⟩:=getL (l:=ks) (i:=x) (by omega)
  obtain ⟨s1,r1,r2⟩:=hR t (List.mem_of_getElem? ht) (d+1) n i s (by omega) hn hs
  have hle:=smT_le t (d+1) n
  rw [am5 ht,smL]
  generalize smT t (d+1) n=q at r1 r2 hle ⊢
  obtain ⟨q1,q2⟩:=q
  simp only at r1 r2 hle
  have hw:w6 ((d:Int)+z1)=((d+1:Nat):Int):=w6_1 (by omega)
  have step:∀s' b,(bif (!q1) then retR [(vB false)] s1 else ac2.L4 RZ d i 0 f2 (tvs ks) ks.length ((x+1:Nat):Int) s1)=some (.ret [.bool b] s')->ac2.L4 RZ d i 0 f2 (tvs ks) ks.length x s=some (.ret [.bool b] s'):=by
   intro s' b e
   apply ac2.aE4
   unfold ac2.L4b
   obtain ⟨k',id',nm',n',m',g1,ns',g2,ks',g3,ls',g4,ch'⟩:=t
   rw [tv] at r1
   rw [af3 (by omega),cond_true]
   simp -implicitDefEqProofs only [aE6 ht,tv,ah7,aC_v,aI_v,aS_v,aL_v,aN_v,vI,vO,hw]
   rw [cS_v r1,aB_v,w6_1 (show x<9223372036854775807 by omega)]
   exact e
  cases q1 with
  | false=>exact ⟨s1,step s1 false rfl,r2⟩
  | true=>
   obtain ⟨s',e1,e2⟩:=sm_L4 hR hl hd j (x+1) (by omega) q2 s1 (hle rfl).1 r2
   exact ⟨s',step s' _ (by rw [Bool.not_true,cond_false];exact e1),e2⟩
theorem sm_b (hR:∀t∈ks,SM t)(hw:wOk (.mk k id nm n m f1 ns f2 ks f3 ls f4 ch)):SM (.mk k id nm n m f1 ns f2 ks f3 ls f4 ch):=by
 intro d c i s hd hc hs
 obtain ⟨⟨a1,a2,a3,a4,a5,a6⟩,b,e⟩:=hw
 have o0:owT id nm ns ls ch=1+ns.length+ls.length+ch.length+(id.size+nm.size) / 40+(suS ns+(suL ls+suP ch)):=rfl
 have h3:∀s,Cl s i (c+owT id nm ns ls ch)->∃s',ac2.J3 RZ d i 0 k id nm n m f1 (aa3 ns) f2 (tvs ks) f3 (lvs ls) f4 (cvs ch) (decide (800<c+owT id nm ns ls ch)||decide ((d:Int)>40)) s=some (.ret [.bool (smT (.mk k id nm n m f1 ns f2 ks f3 ls f4 ch) d c).1] s')/\Cl s' i (smT (.mk k id nm n m f1 ns f2 ks f3 ls f4 ch) d c).2:=by
  intro s hs
  rw [smT]
  by_cases hb:800<c+owT id nm ns ls ch∨40<d
  ·rw [if_pos hb,show (decide (800<c+owT id nm ns ls ch)||decide ((d:Int)>40))=true by rw [Bool.or_eq_true,decide_eq_true_eq,decide_eq_true_eq];omega]
   refine ⟨s,?_,hs⟩
   apply ac2.aH9
   unfold ac2.J3b
   rw [cond_true]
   rfl
  ·rw [if_neg hb,show (decide (800<c+owT id nm ns ls ch)||decide ((d:Int)>40))=false by rw [Bool.or_eq_false_iff,decide_eq_false_iff_not,decide_eq_false_iff_not];omega]
   obtain ⟨s',e1,e2⟩:=sm_L4 (f2:=f2) hR a6 (d:=d) (by omega) ks.length 0 (by omega) (c+owT id nm ns ls ch) s (by omega) hs
   rw [List.drop_zero] at e1 e2
   refine ⟨s',?_,e2⟩
   apply ac2.aH9
   unfold ac2.J3b
   rw [cond_false,ad8]
   exact e1
 have h2:=sm_L2 (by omega) (by omega) h3 ch.length 0 (by omega)
 rw [List.drop_zero] at h2
 have h1:=sm_L1 (by omega) (by omega) h2 ls.length 0 (by omega)
 rw [List.drop_zero] at h1
 have h0:=sm_L0 (by omega) (by omega) h1 ns.length 0 (by omega) (c+ow0 id nm ns ls ch) (by rw [List.drop_zero];unfold owT;omega) _ (hs.put _)
 obtain ⟨s',e1,e2⟩:=h0
 refine ⟨s',?_,e2⟩
 rw [tv]
 apply ac2.b_of
 unfold ac2.b
 have hx:w6 ((c:Int)+(w6 ((w6 ((w6 ((w6 (z1+((aa3 ns).length:Int)))+((lvs ls).length:Int)))+((cvs ch).length:Int)))+(w6 (((w6 ((id.size:Int)+(nm.size:Int)))).tdiv (40:Int))))))=((c+ow0 id nm ns ls ch:Nat):Int):=by
  rw [ae8,aq7,ay0,show z1=(1:Int) from rfl]
  rw [w6_i (x:=1+(ns.length:Int)) (by omega),w6_i (x:=1+(ns.length:Int)+(ls.length:Int)) (by omega),w6_i (x:=1+(ns.length:Int)+(ls.length:Int)+(ch.length:Int)) (by omega)]
  rw [w6_i (x:=(id.size:Int)+(nm.size:Int)) (by omega),show (id.size:Int)+(nm.size:Int)=((id.size+nm.size:Nat):Int) by omega,bq5]
  rw [w6_i (x:=(((id.size+nm.size) / 40:Nat):Int)) (by omega),w6_i (x:=1+(ns.length:Int)+(ls.length:Int)+(ch.length:Int)+(((id.size+nm.size) / 40:Nat):Int)) (by omega),w6_i (by omega)]
  unfold ow0
  omega
 simp -implicitDefEqProofs only [vI]
 rw [hs.rd,aI_v,hs.wr hx,ae8]
 exact e1
end
mutual
theorem small_is :∀t:Ty,wOk t->SM t
 | .mk k id nm n m f1 ns f2 ks f3 ls f4 ch,hw=>by
  have hR:=by3 ks hw.2.2
  exact sm_b hR hw
theorem by3 :∀ks:List Ty,wsOk ks->∀t∈ks,SM t
 | [],_,t,h=>by simp at h
 | a::r,hw,t,h=>by
  have h1:=small_is a hw.1
  rcases List.mem_cons.1 h with e | h
  ·rw [e];exact h1
  ·exact by3 r hw.2 t h
end
theorem suL_flat (ls:List (Bool×List Int)):suL ls=(flat ls).length:=by
 unfold flat
 induction ls with
 | nil=>rfl
 | cons x r ih=>rw [suL,List.flatMap_cons,List.length_append,ih]
mutual
theorem sm_g :∀(t:Ty) (d n:Nat),wOk t->(smT t d n).1=true->gOk t
 | .mk k id nm nn m f1 ns f2 ks f3 ls f4 ch,d,n,hw,h=>by
  rw [smT] at h
  split at h
  ·cases h
  ·rename_i hb
   obtain ⟨⟨a1,a2,a3,a4,a5,a6⟩,b,e⟩:=hw
   have o0:owT id nm ns ls ch=1+ns.length+ls.length+ch.length+(id.size+nm.size) / 40+(suS ns+(suL ls+suP ch)):=rfl
   have hf:=suL_flat ls
   have hk:=(smL_le ks (d+1) _ (by omega) h)
   refine ⟨⟨by unfold sOk;omega,by unfold sOk;omega,fun x hx=>by have:=a3 x hx;unfold sOk;omega,fun x hx=>by have:=a4 x hx;unfold sOk;omega⟩,⟨by omega,by omega,by omega,by omega,by omega⟩,b,sm_gs ks (d+1) _ e h⟩
theorem sm_gs :∀(l:List Ty) (d n:Nat),wsOk l->(smL l d n).1=true->gsOk l
 | [],_,_,_,_=>trivial
 | t::r,d,n,hw,h=>by
  rw [smL] at h
  split at h
  ·rename_i h1
   exact ⟨sm_g t d n hw.1 h1,sm_gs r d _ hw.2 h⟩
  ·cases h
end
end Go.Proofs.YtflhfchgdpbhcaaGreat.E
set_option maxRecDepth 100000
namespace Go.Proofs.YtflhfchgdpbhcaaGreat.E
open Go
def aY7 (t:Ty):Bool:=(smT t 0 0).1
theorem bm1 {t:Ty}(hw:wOk t):∃s',RZ.R aq2 [.list true 9 [.agg (tcs t)]] []=some (.ret [.bool (aY7 t)] s'):=by
 obtain ⟨s1,r1,r2⟩:=small_is t hw 0 0 0 [.box [(.int .i64 0,false)]] (by omega) (by omega) rfl
 have hend:am7.L0 RZ true [.agg (tcs t)] 1 1 s1=some (.ret [.bool true] s1):=by
  apply am7.ag6
  rfl
 refine ⟨s1,?_⟩
 apply am7.b_of
 unfold am7.b
 apply am7.ag6
 unfold am7.L0b
 unfold aY7
 rw [show decide (z0<((([V.agg (tcs t)]:List V).length:Nat):Int))=true from rfl,cond_true,show z0=((0:Nat):Int) from rfl,as5 (i:=0) (v:=.agg (tcs t)) rfl]
 rw [aF7] at r1
 obtain ⟨k,id,nm,n,m,f1,ns,f2,ks,f3,ls,f4,ch⟩:=t
 rw [tcs] at r1 hend ⊢
 simp -implicitDefEqProofs only [ah7,aC_v,aI_v,aS_v,aL_v,aN_v,vI,vO]
 rw [show RZ.R ax1 [V.agg [.int .i64 k,.str id,.str nm,.int .i64 n,.int .i64 m,.list f1 1 (aa3 ns),.list f2 9 (tvs ks),.list f3 1 (lvs ls),.list f4 3 (cvs ch)],.int .i64 0,.obj ([]:List O).length 0] ([]++[O.box [(.int .i64 0,false)]])=_ from r1,cS_v rfl,aB_v]
 cases (smT (.mk k id nm n m f1 ns f2 ks f3 ls f4 ch) 0 0).1 with
 | false=>rfl
 | true=>
  rw [Bool.not_true,cond_false,w6_1 (i:=0) (by omega)]
  exact hend
theorem Light0_is :RZ.R aq2 [.list false 9 []] []=some (.ret [.bool true] []):=by
 apply am7.b_of
 unfold am7.b
 apply am7.ag6
 rfl
theorem Types0_is :RZ.R aR2 [.list false 9 []] []=some (.ret [.bool true] []):=by
 have J:aC6.J0 RZ true=some (.ret [.bool true] []):=aC6.ad0 true rfl
 apply aC6.b_of
 unfold aC6.b
 rw [show decide (((([]:List V).length:Nat):Int)<=12)=true from rfl,cond_true]
 simp -implicitDefEqProofs only [vL,show aa0 [V.list false 9 []]=true from rfl,ck,cond_true,Light0_is,cP_B,aB_v,J]
def lpF (l:List Par):Nat->Nat->Bool
 | 0,_=>true
 | k+1,i=>(match l[i]? with | some p=>aY7 p.ty&&decide (p.nm.size<=100) | none=>false)&&lpF l k (i+1)
def ltF (l:List Ty):Nat->Nat->Bool
 | 0,_=>true
 | k+1,i=>(match l[i]? with | some t=>aY7 t | none=>false)&&ltF l k (i+1)
def br1 (o:Opn):Bool:=(decide (o.ps.length<=30)&&(decide (o.rs.length<=30)&&(aY7 o.res&&decide (o.nm.size<=100))))&&(lpF o.ps o.ps.length 0&&ltF o.rs o.rs.length 0)
def woOk (o:Opn):Prop:=o.nm.size<=10000000/\wOk o.res/\(∀p∈o.ps,p.nm.size<=10000000/\wOk p.ty)/\wsOk o.rs/\(o.pf=false->o.ps=[])/\(o.rf=false->o.rs=[])/\o.ps.length<=10000000/\o.rs.length<=10000000
section
variable {s1:ByteArray} {b2:Bool} {n3:Int} {s4 s5:ByteArray} {n6 n7:Int} {m8:Bool} {e9:List V} {m10:Bool} {e11:List V} {m12:Bool} {e13:List V} {m14:Bool} {e15:List V} {m16 m18:Bool} {ps:List Par} {rs:List Ty}
theorem no_1 (t:Ty):aa0 [V.list true 9 [.agg (tcs t)]]=true:=by
 have:=ad6 t
 rw [aF7] at this
 show ((ad1 _&&true)&&true)=true
 rw [this];rfl
theorem lo_L3 (hg:wsOk rs)(hl:rs.length<=30):∀j i:Nat,i+j=rs.length->ae3.L3 RZ s1 b2 n3 s4 s5 n6 n7 m8 e9 m10 e11 m12 e13 m14 e15 m16 (pavs ps) m18 (tvs rs) false [] false [] false 0 m18 (tvs rs) rs.length i=some (.ret [.bool (ltF rs j i)] [])
 | 0,i,h=>by
  obtain rfl:i=rs.length:=by omega
  apply ae3.aT4
  unfold ae3.L3b
  rw [ad9,cond_false]
  apply ae3.aE4
  rfl
 | j+1,i,h=>by
  obtain ⟨t,ht⟩:=getL (l:=rs) (i:=i) (by omega)
  obtain ⟨sv,hv⟩:=bm1 (ws_mem hg (List.mem_of_getElem? ht))
  have hn:=no_1 t
  have ih:=lo_L3 hg hl j (i+1) (by omega)
  have hpa:=aE6 ht
  rw [ltF,ht]
  obtain ⟨k,id,tn,n,mm,f1,ns,f2,ks,f3,ls,f4,ch⟩:=t
  rw [tcs] at hv hn
  rw [tv] at hpa
  apply ae3.aT4
  unfold ae3.L3b
  rw [af3 (by omega),cond_true]
  simp -implicitDefEqProofs only [hpa,ah7,aC_v,aS_v,aI_v,aL_v,aN_v,vL,hn,ck,cond_true]
  rw [cP_v hv rfl,aB_v,w6_1 (show i<9223372036854775807 by omega),ih]
  cases aY7 (.mk k id tn n mm f1 ns f2 ks f3 ls f4 ch)<;>rfl
theorem lo_L1 (hp:∀p∈ps,p.nm.size<=10000000/\wOk p.ty)(hl:ps.length<=30){q:Bool}(h3:ae3.L3 RZ s1 b2 n3 s4 s5 n6 n7 m8 e9 m10 e11 m12 e13 m14 e15 m16 (pavs ps) m18 (tvs rs) false [] false [] false 0 m18 (tvs rs) rs.length z0=some (.ret [.bool q] [])):∀j i:Nat,i+j=ps.length->ae3.L1 RZ s1 b2 n3 s4 s5 n6 n7 m8 e9 m10 e11 m12 e13 m14 e15 m16 (pavs ps) m18 (tvs rs) false [] false [] false 0 m16 (pavs ps) ps.length i=some (.ret [.bool (lpF ps j i&&q)] [])
 | 0,i,h=>by
  obtain rfl:i=ps.length:=by omega
  apply ae3.ak4
  unfold ae3.L1b
  rw [ad9,cond_false,ad8,lpF,Bool.true_and]
  exact h3
 | j+1,i,h=>by
  obtain ⟨p,ht⟩:=getL (l:=ps) (i:=i) (by omega)
  obtain ⟨sv,hv⟩:=bm1 (hp p (List.mem_of_getElem? ht)).2
  have hn:=no_1 p.ty
  have ih:=lo_L1 hp hl h3 j (i+1) (by omega)
  have hpa:=aS5 ht
  rw [lpF,ht]
  obtain ⟨pn,pw,k,id,tn,n,mm,f1,ns,f2,ks,f3,ls,f4,ch⟩:=p
  simp only [pav,tcs] at hpa
  rw [tcs] at hv hn
  have J2:∀b,ae3.J2 RZ s1 b2 n3 s4 s5 n6 n7 m8 e9 m10 e11 m12 e13 m14 e15 m16 (pavs ps) m18 (tvs rs) false [] false [] false 0 m16 (pavs ps) ps.length i b=some (.ret [.bool (!b&&(lpF ps j (i+1)&&q))] []):=by
   intro b
   apply ae3.ak5
   unfold ae3.J2b
   cases b with
   | true=>rfl
   | false=>rw [cond_false,w6_1 (show i<9223372036854775807 by omega)];exact ih
  apply ae3.ak4
  unfold ae3.L1b
  rw [af3 (by omega),cond_true]
  simp -implicitDefEqProofs only [hpa,ah7,aC_v,aS_v,aI_v,aL_v,aN_v,vL,hn,ck,cond_true]
  rw [cP_v hv rfl,aB_v,J2,J2,ac4]
  refine ac3 ?_
  simp only
  rw [show decide ((pn.size:Int)>100)= !decide (pn.size<=100) by by_cases h:pn.size<=100<;>simp [h]<;>omega]
  generalize lpF ps j (i+1)=x
  cases aY7 (.mk k id tn n mm f1 ns f2 ks f3 ls f4 ch)<;>cases decide (pn.size<=100)<;>cases x<;>cases q<;>rfl
end
def bE0 (o:Opn):V:=.agg (.str o.nm::.bool o.ow::(tcs o.res++[.list o.pf 11 (pavs o.ps),.list o.rf 9 (tvs o.rs),.list false 9 [],.list false 6 [],.bool false,.int .i64 0]))
theorem no_case (o:Opn):aa0 [bE0 o]=true:=by
 have h:=bA4 o
 obtain ⟨onm,ow,⟨k,id,tn,n,mm,f1,ns,f2,ks,f3,ls,f4,ch⟩,pf,ps,rf,rs⟩:=o
 unfold opv at h
 unfold bE0
 simp only [tcs,List.cons_append,List.nil_append,aa0,ad1,Bool.and_true,Bool.true_and,Bool.and_eq_true] at h ⊢
 exact h
theorem Light_is {o:Opn}(hw:woOk o):RZ.R aR1 [bE0 o] []=some (.ret [.bool (br1 o)] []):=by
 obtain ⟨a1,a2,a3,a4,a5,a6,a7,a8⟩:=hw
 obtain ⟨sv,hv⟩:=bm1 a2
 have hn:=no_1 o.res
 obtain ⟨onm,ow,res,pf,ps,rf,rs⟩:=o
 simp only at a1 a2 a3 a4 a5 a6 a7 a8 hv hn
 unfold br1 bE0
 simp only
 generalize aY7 res=lr at hv ⊢
 obtain ⟨k,id,tn,n,mm,f1,ns,f2,ks,f3,ls,f4,ch⟩:=res
 rw [tcs] at hv hn
 simp only [tcs,List.cons_append,List.nil_append]
 have J0:∀b,(b=false->ps.length<=30/\rs.length<=30)->ae3.J0 RZ onm ow k id tn n mm f1 (aa3 ns) f2 (tvs ks) f3 (lvs ls) f4 (cvs ch) pf (pavs ps) rf (tvs rs) false [] false [] false 0 b=some (.ret [.bool (!b&&(lpF ps ps.length 0&&ltF rs rs.length 0))] []):=by
  intro b hb
  apply ae3.ad0
  unfold ae3.J0b
  cases b with
  | true=>rfl
  | false=>
   obtain ⟨h1,h2⟩:=hb rfl
   have h3:=lo_L3 (s1:=onm) (b2:=ow) (n3:=k) (s4:=id) (s5:=tn) (n6:=n) (n7:=mm) (m8:=f1) (e9:=aa3 ns) (m10:=f2) (e11:=tvs ks) (m12:=f3) (e13:=lvs ls) (m14:=f4) (e15:=cvs ch) (m16:=pf) (m18:=rf) (ps:=ps) a4 h2 rs.length 0 (by omega)
   rw [cond_false,as2]
   exact lo_L1 a3 h1 h3 ps.length 0 (by omega)
 have J0t:=J0 true (by simp)
 apply ae3.b_of
 unfold ae3.b
 rw [as2,ad8]
 by_cases h1:ps.length<=30
 ·rw [decide_eq_false (show ¬(ps.length:Int)>30 by omega),cond_false,decide_eq_true h1,Bool.true_and]
  by_cases h2:rs.length<=30
  ·rw [decide_eq_false (show ¬(rs.length:Int)>30 by omega),cond_false,decide_eq_true h2,Bool.true_and,show decide (((([]:List V).length:Nat):Int)>12)=false from rfl,cond_false]
   simp -implicitDefEqProofs only [vL,hn,ck,cond_true]
   rw [cP_v hv rfl,aB_v]
   cases lr with
   | false=>exact J0t
   | true=>
    rw [Bool.not_true,cond_false]
    simp -implicitDefEqProofs only [show aa0 [V.list false 9 []]=true from rfl,cond_true,Types0_is,cP_B,aB_v,Bool.not_true,cond_false]
    rw [J0 _ (fun _=>⟨h1,h2⟩)]
    refine ac3 ?_
    rw [show decide ((onm.size:Int)>100)= !decide (onm.size<=100) by by_cases h:onm.size<=100<;>simp [h]<;>omega]
    simp
  ·rw [decide_eq_true (show (rs.length:Int)>30 by omega),cond_true,decide_eq_false h2,Bool.false_and,J0t]
   rfl
 ·rw [decide_eq_true (show (ps.length:Int)>30 by omega),cond_true,decide_eq_false h1,Bool.false_and,J0t]
  rfl
theorem light_ok {o:Opn}(hw:woOk o)(h:br1 o=true):mOk o:=by
 obtain ⟨a1,a2,a3,a4,a5,a6,a7,a8⟩:=hw
 unfold br1 at h
 simp only [Bool.and_eq_true,decide_eq_true_eq] at h
 obtain ⟨⟨h1,h2,h3,h4⟩,h5,h6⟩:=h
 have kp:∀k i,i+k=o.ps.length->lpF o.ps k i=true->∀p∈o.ps.drop i,sOk p.nm/\gOk p.ty:=by
  intro k
  induction k with
  | zero=>intro i hi _ p hp;rw [List.drop_of_length_le (by omega)] at hp;cases hp
  | succ k ih=>
   intro i hi hf p hp
   obtain ⟨q,hq⟩:=getL (l:=o.ps) (i:=i) (by omega)
   rw [am5 hq] at hp
   rw [lpF,hq] at hf
   simp only [Bool.and_eq_true,decide_eq_true_eq] at hf
   rcases List.mem_cons.1 hp with e | hp
   ·rw [e]
    exact ⟨by unfold sOk;omega,sm_g q.ty 0 0 (a3 q (List.mem_of_getElem? hq)).2 hf.1.1⟩
   ·exact ih (i+1) (by omega) hf.2 p hp
 have kt:∀k i,i+k=o.rs.length->ltF o.rs k i=true->∀t∈o.rs.drop i,gOk t:=by
  intro k
  induction k with
  | zero=>intro i hi _ p hp;rw [List.drop_of_length_le (by omega)] at hp;cases hp
  | succ k ih=>
   intro i hi hf p hp
   obtain ⟨q,hq⟩:=getL (l:=o.rs) (i:=i) (by omega)
   rw [am5 hq] at hp
   rw [ltF,hq] at hf
   simp only [Bool.and_eq_true] at hf
   rcases List.mem_cons.1 hp with e | hp
   ·rw [e]
    exact sm_g q 0 0 (ws_mem a4 (List.mem_of_getElem? hq)) hf.1
   ·exact ih (i+1) (by omega) hf.2 p hp
 have hp:=kp o.ps.length 0 (by omega) h5
 have ht:=kt o.rs.length 0 (by omega) h6
 rw [List.drop_zero] at hp ht
 exact ⟨⟨by omega,sm_g o.res 0 0 a2 h3,hp,gs_of ht,a5,a6,by omega,by omega⟩,h1⟩
theorem law_is {o:Opn}(hw:woOk o):RZ.R aS8 [opv o] []=some (.ret [.bool true] []):=by
 have hL:=Light_is hw
 have hnc:=no_case o
 have hn:=bn1 o
 cases hl:br1 o with
 | false=>
  rw [hl] at hL
  obtain ⟨onm,ow,⟨k,id,tn,n,mm,f1,ns,f2,ks,f3,ls,f4,ch⟩,pf,ps,rf,rs⟩:=o
  unfold opv
  unfold bE0 at hL hnc
  simp only [tcs,List.cons_append,List.nil_append] at hL hnc ⊢
  apply am3.b_of
  unfold am3.b
  simp -implicitDefEqProofs only [vA,vS,vB,vI,vL,hnc,ck,cond_true,hL,cP_B,aB_v,Bool.not_false,awake_is,aq6]
 | true=>
  rw [hl] at hL
  have ho:=light_ok hw hl
  have q1:=aV3 ho
  have q2:=bu2 ho
  have a1:=ba3 ho
  have a2:=bz5 ho
  obtain ⟨sv,v1⟩:=aX4 ho.1
  have v2:=aE7 ho.1
  obtain ⟨sq1,sq2⟩:=tyR_sT false o
  obtain ⟨sa1,sa2⟩:=tyR_sT true o
  have fq:=bF8 sq1 (g_tyR ho false)
  have fa:=bF8 sa1 (g_tyR ho true)
  have no2:∀T:Ty×Int,aa0 [tv T.1,.int .i64 T.2]=true:=fun T=>by show (ad1 (tv T.1)&&_)=true;rw [ad6];rfl
  have nof:∀t t':Ty,aa0 [tv t,tv t']=true:=fun t t'=>by show (ad1 (tv t)&&(ad1 (tv t')&&_))=true;rw [ad6,ad6];rfl
  generalize tyR kc false o (mbs false o)=Q1 at q1 fq sq2
  generalize tyR rc false o (mbsR false o)=Q2 at q2 fq sq2
  generalize tyR kc true o (mbs true o)=A1 at a1 fa sa2
  generalize tyR rc true o (mbsR true o)=A2 at a2 fa sa2
  generalize vopB o=vb at v1 v2
  have nq1:=no2 Q1
  have nq2:=no2 Q2
  have na1:=no2 A1
  have na2:=no2 A2
  have nfq:=nof Q1.1 Q2.1
  have nfa:=nof A1.1 A2.1
  obtain ⟨⟨k1,id1,nm1,n1,m1,f11,ns1,f12,ks1,f13,ls1,f14,ch1⟩,e1⟩:=Q1
  obtain ⟨⟨k2,id2,nm2,n2,m2,f21,ns2,f22,ks2,f23,ls2,f24,ch2⟩,e2⟩:=Q2
  obtain ⟨⟨k3,id3,nm3,n3,m3,f31,ns3,f32,ks3,f33,ls3,f34,ch3⟩,e3⟩:=A1
  obtain ⟨⟨k4,id4,nm4,n4,m4,f41,ns4,f42,ks4,f43,ls4,f44,ch4⟩,e4⟩:=A2
  obtain ⟨onm,ow,⟨k,id,tn,n,mm,f1,ns,f2,ks,f3,ls,f4,ch⟩,pf,ps,rf,rs⟩:=o
  unfold opv at q1 q2 a1 a2 v1 v2 hn ⊢
  unfold bE0 at hL hnc
  simp only [tcs,tv,List.cons_append,List.nil_append] at hL hnc hn q1 q2 a1 a2 v1 v2 fq fa nq1 nq2 na1 na2 nfq nfa sq2 sa2 ⊢
  subst sq2
  subst sa2
  have J0:am3.J0 RZ true=some (.ret [.bool true] []):=am3.ad0 true rfl
  apply am3.b_of
  unfold am3.b
  simp -implicitDefEqProofs only [vA,vS,vB,vI,vL,hnc,hn,ck,cond_true,hL,cP_B,aB_v,Bool.not_true,cond_false]
  rw [au7 q1 nq1]
  simp -implicitDefEqProofs only [show ∀l K,aT (V.tup l) K=K l from fun _ _=>rfl,aA_v,aC_v,aI_v,aS_v,aL_v,aN_v]
  rw [au7 q2 nq2]
  simp -implicitDefEqProofs only [show ∀l K,aT (V.tup l) K=K l from fun _ _=>rfl,aA_v,aC_v,aI_v,aS_v,aL_v,aN_v]
  rw [au7 a1 na1]
  simp -implicitDefEqProofs only [show ∀l K,aT (V.tup l) K=K l from fun _ _=>rfl,aA_v,aC_v,aI_v,aS_v,aL_v,aN_v]
  rw [au7 a2 na2]
  simp -implicitDefEqProofs only [show ∀l K,aT (V.tup l) K=K l from fun _ _=>rfl,aA_v,aC_v,aI_v,aS_v,aL_v,aN_v]
  rw [cP_v v1 rfl]
  simp -implicitDefEqProofs only [aB_v,v2,cP_B,beq_self_eq_true,cond_true,nfq,nfa,fq,fa,awake_is,J0]
end Go.Proofs.YtflhfchgdpbhcaaGreat.E
