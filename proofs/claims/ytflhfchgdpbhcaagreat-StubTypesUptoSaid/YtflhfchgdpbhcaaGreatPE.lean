/- It is proved of the questions and answers that a stub gives what they answer at plain data. No condition beyond the lemmas' own. -/
import Derived.Test.YtflhfchgdpbhcaaGreatPD
set_option maxRecDepth 100000
namespace Go.Proofs.YtflhfchgdpbhcaaGreat.E
open Go
mutual
def gOk :Ty->Prop
 | .mk _ id nm _ _ f1 ns f2 ks f3 ls f4 ch=>(sOk id/\sOk nm/\(∀x∈ns,sOk x)/\(∀p∈ch,sOk p.1))/\(ns.length<=1000000/\ks.length<=1000000/\ls.length<=1000000/\ch.length<=1000000/\(flat ls).length<=1000000)/\((f1=false->ns=[])/\(f2=false->ks=[])/\(f3=false->ls=[])/\(f4=false->ch=[])/\(∀l∈ls,l.1=false->l.2=[]))/\gsOk ks
def gsOk :List Ty->Prop
 | []=>True
 | t::r=>gOk t/\gsOk r
end
theorem bf0 {ls:List (Bool×List Int)}{l:Bool×List Int}(h:l∈ls):l.2.length<=(flat ls).length:=by
 induction ls with
 | nil=>simp at h
 | cons a r ih=>
  unfold flat at ih ⊢
  rw [List.flatMap_cons,List.length_append]
  rcases List.mem_cons.1 h with e | h
  ·rw [e];omega
  ·have:=ih h;omega
mutual
theorem g_t :∀t:Ty,gOk t->tOk t/\flOk t/\liOk t
 | .mk k id nm n m f1 ns f2 ks f3 ls f4 ch,h=>by
  obtain ⟨⟨a1,a2,a3,a4⟩,⟨b1,b2,b3,b4,b5⟩,c,d⟩:=h
  obtain ⟨e1,e2,e3⟩:=gs_t ks d
  exact ⟨⟨a1,a2,⟨by omega,a3⟩,⟨by omega,fun l hl=>by have:=bf0 hl;omega⟩,⟨by omega,a4⟩,by omega,e1⟩,⟨b5,e2⟩,⟨b1,b2,b3,b4,e3⟩⟩
theorem gs_t :∀l:List Ty,gsOk l->tsOk l/\flsOk l/\lisOk l
 | [],_=>⟨trivial,trivial,trivial⟩
 | t::r,h=>by
  have h1:=g_t t h.1
  have h2:=gs_t r h.2
  exact ⟨⟨h1.1,h2.1⟩,⟨h1.2.1,h2.2.1⟩,⟨h1.2.2,h2.2.2⟩⟩
end
theorem bj4 :∀{l:List Ty} {t:Ty},gsOk l->t∈l->gOk t
 | a::r,t,h,hm=>by
  rcases List.mem_cons.1 hm with e | hm
  ·rw [e];exact h.1
  ·exact bj4 h.2 hm
mutual
def sT :Ty->Ty->Prop
 | .mk k id nm n m _ ns _ ks _ ls _ ch,.mk k' id' nm' n' m' _ ns' _ ks' _ ls' _ ch'=>(k=k'/\id=id'/\nm=nm'/\n=n'/\m=m'/\ns=ns'/\ls.map (·.2)=ls'.map (·.2)/\ch=ch')/\sTs ks ks'
def sTs :List Ty->List Ty->Prop
 | [],[]=>True
 | t::r,t'::r'=>sT t t'/\sTs r r'
 | _,_=>False
end
theorem by6 :∀{l l':List Ty},sTs l l'->l.length=l'.length/\∀{i:Nat} {t:Ty},l[i]? =some t->∃t',l'[i]? =some t'/\sT t t'
 | [],[],_=>⟨rfl,fun h=>by simp at h⟩
 | a::r,a'::r',h=>by
  rw [sTs] at h
  obtain ⟨h1,h2⟩:=by6 h.2
  refine ⟨by simp [h1],fun {i t} hi=>?_⟩
  cases i with
  | zero=>simp at hi;subst hi;exact ⟨a',rfl,h.1⟩
  | succ i=>exact h2 (by simpa using hi)
 | [],_::_,h=>by rw [sTs] at h;exact h.elim;all_goals simp
 | _::_,[],h=>by rw [sTs] at h;exact h.elim;all_goals simp
theorem ba_beq (s:ByteArray):(s==s)=true:=by
 first
 | exact beq_self_eq_true _
 | (show (s.data==s.data)=true;exact beq_self_eq_true _)
 | (show decide (s=s)=true;exact decide_eq_true rfl)
theorem Same_is {m1 m2:Bool}{l:List ByteArray}(hl:l.length<=1000000):RZ.R aU8 [.list m1 1 (aa3 l),.list m2 1 (aa3 l)] []=some (.ret [.bool true] []):=by
 have L:∀j i:Nat,i+j=l.length->at3.L0 RZ m1 (aa3 l) m2 (aa3 l) l.length i=some (.ret [.bool true] []):=by
  intro j
  induction j with
  | zero=>
   intro i h
   obtain rfl:i=l.length:=by omega
   apply at3.ag6
   unfold at3.L0b
   rw [ad9,cond_false]
   rfl
  | succ j ih=>
   intro i h
   obtain ⟨c,hc⟩:=getL (l:=l) (i:=i) (by omega)
   apply at3.ag6
   unfold at3.L0b
   rw [af3 (by omega)]
   simp -implicitDefEqProofs only [cond_true,az6 hc,aH7,aC_v,aS_v,aN_v,strB,decide_true,Bool.not_true,cond_false,w6_1 (show i<9223372036854775807 by omega)]
   exact ih (i+1) (by omega)
 apply at3.b_of
 unfold at3.b
 rw [show (((aa3 l).length:Int) !=((aa3 l).length:Int))=false by simp,cond_false,ae8]
 exact L l.length 0 (by omega)
section
variable {k:Int} {id nm:ByteArray} {n m:Int} {f1 f2 f3 f4 g1 g2 g3 g4:Bool} {ns:List ByteArray} {ks ks':List Ty} {ls ls':List (Bool×List Int)} {ch:List Pt}
def AL (t:Ty):Prop:=∀t',sT t t'->gOk t->RZ.R ax0 [tv t,tv t',.bool true] []=some (.ret [.bool true] [])
theorem al_L6 (hR:∀t∈ks,AL t)(hs:sTs ks ks')(hg:gsOk ks)(hl:ks.length<=1000000):∀j i:Nat,i+j=ks.length->ac1.L6 RZ true k id nm n m f1 (aa3 ns) f2 (tvs ks) f3 (lvs ls) f4 (cvs ch) k id nm n m g1 (aa3 ns) g2 (tvs ks') g3 (lvs ls') g4 (cvs ch) ks.length i=some (.ret [.bool true] [])
 | 0,i,h=>by
  obtain rfl:i=ks.length:=by omega
  apply ac1.L6_of
  unfold ac1.L6b
  rw [ad9,cond_false]
  rfl
 | j+1,i,h=>by
  obtain ⟨t,ht⟩:=getL (l:=ks) (i:=i) (by omega)
  obtain ⟨t',ht',hst⟩:=(by6 hs).2 ht
  have hm:=List.mem_of_getElem? ht
  have hr:=hR t hm t' hst (bj4 hg hm)
  have ih:=al_L6 hR hs hg hl j (i+1) (by omega)
  have hno:=ad6 t
  have hno':=ad6 t'
  obtain ⟨tk,tid,tnm,tn,tm,t1,tns,t2,tks,t3,tls,t4,tch⟩:=t
  obtain ⟨uk,uid,unm,un,um,u1,uns,u2,uks,u3,uls,u4,uch⟩:=t'
  rw [tv] at hno hno' hr
  rw [tv] at hr
  have hn:aa0 [V.agg [.int .i64 tk,.str tid,.str tnm,.int .i64 tn,.int .i64 tm,.list t1 1 (aa3 tns),.list t2 9 (tvs tks),.list t3 1 (lvs tls),.list t4 3 (cvs tch)],V.agg [.int .i64 uk,.str uid,.str unm,.int .i64 un,.int .i64 um,.list u1 1 (aa3 uns),.list u2 9 (tvs uks),.list u3 1 (lvs uls),.list u4 3 (cvs uch)],.bool true]=true:=by
   show (ad1 _&&(ad1 _&&_))=true
   rw [hno,hno'];rfl
  apply ac1.L6_of
  unfold ac1.L6b
  rw [af3 (by omega)]
  simp -implicitDefEqProofs only [cond_true,aE6 ht,aE6 ht',tv,ah7,aC_v,aI_v,aS_v,aL_v,aN_v,vB,hn,ck,hr,cP_B,aB_v,Bool.not_true,cond_false,w6_1 (show i<9223372036854775807 by omega)]
  exact ih
theorem al_L5 {o:Out}(hl:ch.length<=1000000)(h6:ac1.L6 RZ true k id nm n m f1 (aa3 ns) f2 (tvs ks) f3 (lvs ls) f4 (cvs ch) k id nm n m g1 (aa3 ns) g2 (tvs ks') g3 (lvs ls') g4 (cvs ch) ks.length z0=some o):∀j i:Nat,i+j=ch.length->ac1.L5 RZ true k id nm n m f1 (aa3 ns) f2 (tvs ks) f3 (lvs ls) f4 (cvs ch) k id nm n m g1 (aa3 ns) g2 (tvs ks') g3 (lvs ls') g4 (cvs ch) ch.length i=some o
 | 0,i,h=>by
  obtain rfl:i=ch.length:=by omega
  apply ac1.L5_of
  unfold ac1.L5b
  rw [ad9,cond_false,ad8]
  exact h6
 | j+1,i,h=>by
  obtain ⟨p,hp⟩:=getL (l:=ch) (i:=i) (by omega)
  have ih:=al_L5 hl h6 j (i+1) (by omega)
  apply ac1.L5_of
  unfold ac1.L5b
  rw [af3 (by omega)]
  simp -implicitDefEqProofs only [cond_true,aN7 hp,pv,ah7,aC_v,aI_v,aS_v,aB_v,aN_v,ba_beq,beq_self_eq_true,Bool.and_true,Bool.not_true,cond_false,w6_1 (show i<9223372036854775807 by omega)]
  exact ih
theorem al_L3 {o:Out}(he:ls.map (·.2)=ls'.map (·.2))(hl:ls.length<=1000000)(hf:(flat ls).length<=1000000)(h5:ac1.L5 RZ true k id nm n m f1 (aa3 ns) f2 (tvs ks) f3 (lvs ls) f4 (cvs ch) k id nm n m g1 (aa3 ns) g2 (tvs ks') g3 (lvs ls') g4 (cvs ch) ch.length z0=some o):∀j i:Nat,i+j=ls.length->ac1.L3 RZ true k id nm n m f1 (aa3 ns) f2 (tvs ks) f3 (lvs ls) f4 (cvs ch) k id nm n m g1 (aa3 ns) g2 (tvs ks') g3 (lvs ls') g4 (cvs ch) ls.length i=some o
 | 0,i,h=>by
  obtain rfl:i=ls.length:=by omega
  apply ac1.aT4
  unfold ac1.L3b
  rw [ad9,cond_false,ay0]
  exact h5
 | j+1,i,h=>by
  obtain ⟨x,hx⟩:=getL (l:=ls) (i:=i) (by omega)
  have hx':∃y,ls'[i]? =some y/\y.2=x.2:=by
   have:=congrArg (fun l=>l[i]?) he
   simp only [List.getElem?_map,hx] at this
   cases hy:ls'[i]? with
   | none=>rw [hy] at this;simp at this
   | some y=>rw [hy] at this;simp at this;exact ⟨y,rfl,this.symm⟩
  obtain ⟨y,hy,hyx⟩:=hx'
  have hxl:=bf0 (List.mem_of_getElem? hx)
  have ih:=al_L3 he hl hf h5 j (i+1) (by omega)
  have hy':∀K,idxK (lvs ls') (i:Int) K=K (.list y.1 1 (ints x.2)):=fun K=>by rw [aU2 hy,hyx]
  have L4:∀a b:Nat,b+a=x.2.length->ac1.L4 RZ true k id nm n m f1 (aa3 ns) f2 (tvs ks) f3 (lvs ls) f4 (cvs ch) k id nm n m g1 (aa3 ns) g2 (tvs ks') g3 (lvs ls') g4 (cvs ch) i ls.length i x.2.length b=some o:=by
   intro a
   induction a with
   | zero=>
    intro b hb
    obtain rfl:b=x.2.length:=by omega
    apply ac1.aE4
    unfold ac1.L4b
    rw [ad9,cond_false,w6_1 (show i<9223372036854775807 by omega)]
    exact ih
   | succ a iha=>
    intro b hb
    obtain ⟨z,hz⟩:=getL (l:=x.2) (i:=b) (by omega)
    apply ac1.aE4
    unfold ac1.L4b
    rw [af3 (by omega)]
    simp -implicitDefEqProofs only [cond_true,aU2 hx,hy',aP6,aC_v,aL_v,aN_v,ints_at hz,bs1,aI_v,bne_self_eq_false,cond_false,w6_1 (show b<9223372036854775807 by omega)]
    exact iha (b+1) (by omega)
  apply ac1.aT4
  unfold ac1.L3b
  rw [af3 (by omega)]
  simp -implicitDefEqProofs only [cond_true,aU2 hx,hy',aP6,aC_v,aL_v,aN_v,am8,bne_self_eq_false,cond_false]
  exact L4 x.2.length 0 (by omega)
theorem al_b (hR:∀t∈ks,AL t)(he:ls.map (·.2)=ls'.map (·.2))(hs:sTs ks ks')(hg:gOk (.mk k id nm n m f1 ns f2 ks f3 ls f4 ch)):RZ.R ax0 [tv (.mk k id nm n m f1 ns f2 ks f3 ls f4 ch),tv (.mk k id nm n m g1 ns g2 ks' g3 ls' g4 ch),.bool true] []=some (.ret [.bool true] []):=by
 obtain ⟨⟨a1,a2,a3,a4⟩,⟨b1,b2,b3,b4,b5⟩,c,d⟩:=hg
 have h6:=al_L6 (k:=k) (id:=id) (nm:=nm) (n:=n) (m:=m) (f1:=f1) (f2:=f2) (f3:=f3) (f4:=f4) (g1:=g1) (g2:=g2) (g3:=g3) (g4:=g4) (ns:=ns) (ls:=ls) (ls':=ls') (ch:=ch) hR hs d b2 ks.length 0 (by omega)
 have h5:=al_L5 b4 h6 ch.length 0 (by omega)
 have h3:=al_L3 he b3 b5 h5 ls.length 0 (by omega)
 have hsame:=Same_is (m1:=f1) (m2:=g1) b1
 have J2:ac1.J2 RZ true k id nm n m f1 (aa3 ns) f2 (tvs ks) f3 (lvs ls) f4 (cvs ch) k id nm n m g1 (aa3 ns) g2 (tvs ks') g3 (lvs ls') g4 (cvs ch) false=some (.ret [.bool true] []):=by
  apply ac1.ak5
  unfold ac1.J2b
  rw [cond_false,aq7]
  exact h3
 have J1:ac1.J1 RZ true k id nm n m f1 (aa3 ns) f2 (tvs ks) f3 (lvs ls) f4 (cvs ch) k id nm n m g1 (aa3 ns) g2 (tvs ks') g3 (lvs ls') g4 (cvs ch) false=some (.ret [.bool true] []):=by
  apply ac1.an7
  unfold ac1.J1b
  rw [cond_false,cond_true,strB,decide_eq_true rfl,Bool.not_true,cond_false]
  simp -implicitDefEqProofs only [vL,show aa0 [V.list f1 1 (aa3 ns),.list g1 1 (aa3 ns)]=true by simp [aa0,ad1,ad4],ck,cond_true,hsame,cP_B,aB_v,Bool.not_true]
  exact J2
 have hll:ls'.length=ls.length:=by have:=congrArg List.length he;simpa using this.symm
 rw [tv,tv]
 apply ac1.b_of
 unfold ac1.b
 rw [Bool.not_true,cond_false]
 apply ac1.ad0
 unfold ac1.J0b
 rw [strB,decide_eq_true rfl,ad8,ad8,aq7,aq7,(by6 hs).1,hll]
 simp -implicitDefEqProofs only [cond_false,bne_self_eq_false,Bool.not_true]
 exact J1
end
mutual
theorem alike_is :∀t:Ty,AL t
 | .mk k id nm n m f1 ns f2 ks f3 ls f4 ch,.mk k' id' nm' n' m' g1 ns' g2 ks' g3 ls' g4 ch',h,hg=>by
  have hR:=bF3 ks
  rw [sT] at h
  obtain ⟨⟨rfl,rfl,rfl,rfl,rfl,rfl,h7,rfl⟩,h9⟩:=h
  exact al_b hR h7 h9 hg
theorem bF3 :∀ks:List Ty,∀t∈ks,AL t
 | [],t,h=>by simp at h
 | a::r,t,h=>by
  have h1:=alike_is a
  rcases List.mem_cons.1 h with e | h
  ·rw [e];exact h1
  ·exact bF3 r t h
end
theorem bF8 {t t':Ty}(h:sT t t')(hg:gOk t):RZ.R aA6 [tv t,tv t'] []=some (.ret [.bool true] []):=by
 have ha:=alike_is t t' h hg
 have hno:=ad6 t
 have hno':=ad6 t'
 obtain ⟨tk,tid,tnm,tn,tm,t1,tns,t2,tks,t3,tls,t4,tch⟩:=t
 obtain ⟨uk,uid,unm,un,um,u1,uns,u2,uks,u3,uls,u4,uch⟩:=t'
 rw [tv] at hno hno'
 rw [tv,tv] at ha ⊢
 have hn:aa0 [V.agg [.int .i64 tk,.str tid,.str tnm,.int .i64 tn,.int .i64 tm,.list t1 1 (aa3 tns),.list t2 9 (tvs tks),.list t3 1 (lvs tls),.list t4 3 (cvs tch)],V.agg [.int .i64 uk,.str uid,.str unm,.int .i64 un,.int .i64 um,.list u1 1 (aa3 uns),.list u2 9 (tvs uks),.list u3 1 (lvs uls),.list u4 3 (cvs uch)],.bool true]=true:=by
  show (ad1 _&&(ad1 _&&_))=true
  rw [hno,hno'];rfl
 apply aU0.b_of
 unfold aU0.b
 simp -implicitDefEqProofs only [vB,hn,ck,cond_true,ha,cP_B,aB_v,aq6]
end Go.Proofs.YtflhfchgdpbhcaaGreat.E
set_option maxRecDepth 100000
namespace Go.Proofs.YtflhfchgdpbhcaaGreat.E
open Go
mutual
def kc :Ty->Ty
 | .mk k id nm n m f1 ns _ ks _ ls f4 ch=>.mk k id nm n m f1 ns true (kcs ks) (!ls.isEmpty) ls f4 ch
def kcs :List Ty->List Ty
 | []=>[]
 | t::r=>kc t::kcs r
end
mutual
def rc :Ty->Ty
 | .mk k id nm n m _ ns _ ks _ ls _ ch=>.mk k id nm n m true ns (!ks.isEmpty) (rcs ks) (!ls.isEmpty) (ls.map fun l=>(true,l.2)) true ch
def rcs :List Ty->List Ty
 | []=>[]
 | t::r=>rc t::rcs r
end
theorem be7 :∀l,kcs l=l.map kc
 | []=>rfl
 | t::r=>by rw [kcs,be7 r];rfl
theorem bd5 :∀l,rcs l=l.map rc
 | []=>rfl
 | t::r=>by rw [rcs,bd5 r];rfl
mutual
theorem kc_sT :∀t t',sT t t'->sT (kc t) t'
 | .mk k id nm n m f1 ns f2 ks f3 ls f4 ch,.mk k' id' nm' n' m' g1 ns' g2 ks' g3 ls' g4 ch',h=>by
  rw [sT] at h
  rw [kc,sT]
  exact ⟨h.1,kcs_sT ks ks' h.2⟩
theorem kcs_sT :∀l l',sTs l l'->sTs (kcs l) l'
 | [],[],h=>by rw [kcs];exact h
 | t::r,t'::r',h=>by
  rw [sTs] at h
  rw [kcs,sTs]
  exact ⟨kc_sT t t' h.1,kcs_sT r r' h.2⟩
 | [],_::_,h=>by rw [sTs] at h;exact h.elim;all_goals simp
 | _::_,[],h=>by rw [sTs] at h;exact h.elim;all_goals simp
end
mutual
theorem rc_sT :∀t,sT t (rc t)
 | .mk k id nm n m f1 ns f2 ks f3 ls f4 ch=>by
  rw [rc,sT]
  exact ⟨⟨rfl,rfl,rfl,rfl,rfl,rfl,by rw [List.map_map];rfl,rfl⟩,rcs_sT ks⟩
theorem rcs_sT :∀l,sTs l (rcs l)
 | []=>by rw [rcs,sTs];trivial
 | t::r=>by rw [rcs,sTs];exact ⟨rc_sT t,rcs_sT r⟩
end
theorem as8 {es xs:List V}{b:Nat}{K:R}(h:es.length+xs.length<=1000001)(hb:b<=200):apK es xs b K=K:=by
 refine apK_ok ?_ (by omega)
 calc (es.length+xs.length)*b<=1000001*200:=Nat.mul_le_mul h hb
  _<=140737488355328:=by decide
theorem clone_i {f:Bool}{l:List Int}(h:f=false->l=[])(hl:l.length<=1000000):RZ.R at1 [.list f 1 (ints l)] []=some (.ret [.list f 1 (ints l)] []):=by
 apply aw0.b_of
 unfold aw0.b
 cases f with
 | false=>rw [h rfl];rfl
 | true=>rw [Bool.not_true,cond_false,as8 (by rw [am8];simp;omega) (by omega)];rfl
theorem clone_s {f:Bool}{l:List ByteArray}(h:f=false->l=[])(hl:l.length<=1000000):RZ.R an9 [.list f 1 (aa3 l)] []=some (.ret [.list f 1 (aa3 l)] []):=by
 apply aq5.b_of
 unfold aq5.b
 cases f with
 | false=>rw [h rfl];rfl
 | true=>rw [Bool.not_true,cond_false,as8 (by rw [ae8];simp;omega) (by omega)];rfl
theorem clone_p {f:Bool}{l:List Pt}(h:f=false->l=[])(hl:l.length<=1000000):RZ.R ak8 [.list f 3 (cvs l)] []=some (.ret [.list f 3 (cvs l)] []):=by
 apply am6.b_of
 unfold am6.b
 cases f with
 | false=>rw [h rfl];rfl
 | true=>rw [Bool.not_true,cond_false,as8 (by rw [ay0];simp;omega) (by omega)];rfl
def F83 :V:=.func (.func 83) [] []
section
variable {k:Int} {id nm:ByteArray} {n m:Int} {f1 f2 f3 f4:Bool} {ns:List ByteArray} {ks:List Ty} {ls:List (Bool×List Int)} {ch:List Pt} {s:List O}
theorem br4 {α:Type}{l:List α}{i:Nat}(hi:i<l.length):(!(l.take (i+1)).isEmpty)=true:=by
 cases l with
 | nil=>simp at hi
 | cons a r=>rfl
theorem kc_L1 (hl:ls.length<=1000000)(hf:(flat ls).length<=1000000)(hz:∀l∈ls,l.1=false->l.2=[]){e2:List V}:∀j i:Nat,i+j=ls.length->ah8.L1 RZ (!(ls.take i).isEmpty) (lvs (ls.take i)) f3 (lvs ls) ls.length i k id nm n m f1 (aa3 ns) e2 f3 (lvs ls) f4 (cvs ch) [] [] [] [] s=some (.ret [.agg [.int .i64 k,.str id,.str nm,.int .i64 n,.int .i64 m,.list f1 1 (aa3 ns),.list true 9 e2,.list (!ls.isEmpty) 1 (lvs ls),.list f4 3 (cvs ch)]] s)
 | 0,i,h=>by
  obtain rfl:i=ls.length:=by omega
  apply ah8.ak4
  unfold ah8.L1b
  rw [ad9,cond_false,List.take_length]
  rfl
 | j+1,i,h=>by
  obtain ⟨x,hx⟩:=getL (l:=ls) (i:=i) (by omega)
  have hm:=List.mem_of_getElem? hx
  have hxl:=bf0 hm
  have ih:=kc_L1 hl hf hz (e2:=e2) j (i+1) (by omega)
  have hc:=clone_i (hz x hm) (by omega)
  apply ah8.ak4
  unfold ah8.L1b
  rw [af3 (by omega)]
  simp -implicitDefEqProofs only [cond_true,aU2 hx,aP6,aC_v,aL_v,aN_v,vL,show aa0 [V.list x.1 1 (ints x.2)]=true by simp [aa0,ad1,at4],ck]
  rw [cP_v hc (by simp [ad1,at4])]
  simp -implicitDefEqProofs only [aL_v]
  rw [as8 (by rw [aq7,List.length_take];simp;omega) (by omega),w6_1 (show i<9223372036854775807 by omega)]
  rw [show lvs (ls.take i)++[V.list x.1 1 (ints x.2)]=lvs (ls.take (i+1)) by rw [ah5 hx];unfold lvs;rw [List.map_append];rfl]
  rw [show ((!(ls.take i).isEmpty)||!([V.list x.1 1 (ints x.2)]:List V).isEmpty)=(!(ls.take (i+1)).isEmpty) by rw [br4 (by omega)];simp]
  exact ih
def KC (t:Ty):Prop:=∀s,gOk t->RZ.R aD3 [tv t,F83] s=some (.ret [tv (kc t)] s)
theorem kc_L0 (hR:∀t∈ks,KC t)(hg:gsOk ks)(hl:ks.length<=1000000)(h1:ls.length<=1000000)(hf:(flat ls).length<=1000000)(hz:∀l∈ls,l.1=false->l.2=[]):∀j i:Nat,i+j=ks.length->ah8.L0 RZ F83 (tvs (kcs (ks.take i))) f2 (tvs ks) ks.length i k id nm n m f1 (aa3 ns) f2 (tvs ks) f3 (lvs ls) f4 (cvs ch) [] [] [] [] s=some (.ret [.agg [.int .i64 k,.str id,.str nm,.int .i64 n,.int .i64 m,.list f1 1 (aa3 ns),.list true 9 (tvs (kcs ks)),.list (!ls.isEmpty) 1 (lvs ls),.list f4 3 (cvs ch)]] s)
 | 0,i,h=>by
  obtain rfl:i=ks.length:=by omega
  have:=kc_L1 (k:=k) (id:=id) (nm:=nm) (n:=n) (m:=m) (f1:=f1) (f3:=f3) (f4:=f4) (ns:=ns) (ch:=ch) (s:=s) h1 hf hz (e2:=tvs (kcs ks)) ls.length 0 (by omega)
  apply ah8.ag6
  unfold ah8.L0b
  rw [ad9,cond_false,List.take_length,aq7]
  exact this
 | j+1,i,h=>by
  obtain ⟨t,ht⟩:=getL (l:=ks) (i:=i) (by omega)
  have hm:=List.mem_of_getElem? ht
  have ih:=kc_L0 hR hg hl h1 hf hz j (i+1) (by omega)
  have hr:=hR t hm s (bj4 hg hm)
  have e:tvs (kcs (ks.take (i+1)))=tvs (kcs (ks.take i))++[tv (kc t)]:=by
   rw [ah5 ht,be7,be7,as0,as0,List.map_append,List.map_append];rfl
  rw [e] at ih
  have hlen:(tvs (kcs (ks.take i))).length=i:=by rw [ad8,be7,List.length_map,List.length_take];omega
  generalize tvs (kcs (ks.take i))=E at ih hlen ⊢
  obtain ⟨tk,tid,tnm,tn,tm,t1,tns,t2,tks,t3,tls,t4,tch⟩:=t
  rw [kc] at hr ih
  rw [tv] at ih
  rw [tv,tv] at hr
  apply ah8.ag6
  unfold ah8.L0b
  rw [af3 (by omega)]
  simp -implicitDefEqProofs only [cond_true,aE6 ht,tv,ah7,aC_v,aI_v,aS_v,aL_v,aN_v,List.all_cons,List.all_nil,show ∀l,am0 (V.agg l)=true from fun _=>rfl,show am0 F83=true from rfl,Bool.and_true,ck]
  rw [cS_v hr]
  simp -implicitDefEqProofs only [aA_v,aC_v,aI_v,aS_v,aL_v,aN_v]
  rw [as8 (by rw [hlen];simp;omega) (by omega),w6_1 (show i<9223372036854775807 by omega),show nlB 2 [(F83,.no)]=true from rfl]
  simp -implicitDefEqProofs only [cond_true]
  exact ih
theorem same_is :RZ.R 83 ([]++[.agg [.int .i64 k,.str id,.str nm,.int .i64 n,.int .i64 m,.list f1 1 (aa3 ns),.list f2 9 (tvs ks),.list f3 1 (lvs ls),.list f4 3 (cvs ch)]]++[]) []=some (.ret [.agg [.int .i64 k,.str id,.str nm,.int .i64 n,.int .i64 m,.list f1 1 (aa3 ns),.list f2 9 (tvs ks),.list f3 1 (lvs ls),.list f4 3 (cvs ch)]] []):=by
 apply bB9.b_of
 rfl
theorem kc_b (hR:∀t∈ks,KC t):KC (.mk k id nm n m f1 ns f2 ks f3 ls f4 ch):=by
 intro s hg
 obtain ⟨⟨a1,a2,a3,a4⟩,⟨b1,b2,b3,b4,b5⟩,⟨c1,c2,c3,c4,c5⟩,d⟩:=hg
 have h0:=kc_L0 (k:=k) (id:=id) (nm:=nm) (n:=n) (m:=m) (f1:=f1) (f2:=f2) (f3:=f3) (f4:=f4) (ns:=ns) (ch:=ch) (s:=s) hR d b2 b3 b5 c5 ks.length 0 (by omega)
 have hno:=ad6 (.mk k id nm n m f1 ns f2 ks f3 ls f4 ch)
 have hs:=clone_s c1 b1
 have hp:=clone_p c4 b4
 rw [tv] at hno
 rw [kc,tv,tv]
 apply ah8.b_of
 unfold ah8.b F83
 rw [CALLF_p (by kernel_rfl) same_is rfl (by show (ad1 _&&_)=true;rw [hno];rfl) hno]
 simp -implicitDefEqProofs only [aA_v,aC_v,aI_v,aS_v,aL_v,aN_v,vL,show aa0 [V.list f1 1 (aa3 ns)]=true by simp [aa0,ad1,ad4],ck,cond_true]
 rw [cP_v hs (by simp [ad1,ad4])]
 simp -implicitDefEqProofs only [aL_v,show aa0 [V.list f4 3 (cvs ch)]=true by simp [aa0,ad1,ak3],cond_true]
 rw [cP_v hp (by simp [ad1,ak3])]
 simp -implicitDefEqProofs only [aL_v]
 rw [ad8,show (decide (0<=z0)&&(decide (z0<=(ks.length:Int))&&(decide ((ks.length:Int)*152<=140737488355328)&&decide ((ks.length:Int)<=140737488355328))))=true by
  rw [show z0=(0:Int) from rfl,decide_eq_true (by omega),decide_eq_true (by omega),decide_eq_true (by omega),decide_eq_true (by omega)];rfl,cond_true]
 exact h0
end
mutual
theorem bD8 :∀t:Ty,KC t
 | .mk k id nm n m f1 ns f2 ks f3 ls f4 ch=>by
  have hR:=bv9 ks
  exact kc_b hR
theorem bv9 :∀ks:List Ty,∀t∈ks,KC t
 | [],t,h=>by simp at h
 | a::r,t,h=>by
  have h1:=bD8 a
  rcases List.mem_cons.1 h with e | h
  ·rw [e];exact h1
  ·exact bv9 r t h
end
theorem kind_Copy_is {t:Ty}(hg:gOk t):RZ.R ak1 [tv t] []=some (.ret [tv (kc t)] []):=by
 have h:=bD8 t [] hg
 obtain ⟨tk,tid,tnm,tn,tm,t1,tns,t2,tks,t3,tls,t4,tch⟩:=t
 rw [kc,tv,tv] at h ⊢
 apply bj2.b_of
 unfold bj2.b
 simp -implicitDefEqProofs only [vT,vA,vI,vS,vL]
 rw [show V.func (.func 83) [] []=F83 from rfl,cS_v h]
 simp -implicitDefEqProofs only [aA_v,aC_v,aI_v,aS_v,aL_v,aN_v,aq6]
end Go.Proofs.YtflhfchgdpbhcaaGreat.E
set_option maxRecDepth 100000
namespace Go.Proofs.YtflhfchgdpbhcaaGreat.E
open Go
def fl1 (ls:List (Bool×List Int)):List (Bool×List Int):=ls.map fun l=>(true,l.2)
section
variable {k:Int} {id nm:ByteArray} {n m:Int} {f1 f2 f3 f4:Bool} {ns:List ByteArray} {ks:List Ty} {ls:List (Bool×List Int)} {ch:List Pt}
def RC (t:Ty):Prop:=gOk t->RZ.R ar6 [tv t] []=some (.ret [tv (rc t)] [])
theorem rc_L1 (hR:∀t∈ks,RC t)(hg:gsOk ks)(hl:ks.length<=1000000){e1:List V}{g3:Bool}{e3 e4:List V}:∀j i:Nat,i+j=ks.length->aj8.L1 RZ (!(ks.take i).isEmpty) (tvs (rcs (ks.take i))) f2 (tvs ks) ks.length i k id nm n m e1 f2 (tvs ks) g3 e3 e4 [] [] [] []=some (.ret [.agg [.int .i64 k,.str id,.str nm,.int .i64 n,.int .i64 m,.list true 1 e1,.list (!ks.isEmpty) 9 (tvs (rcs ks)),.list g3 1 e3,.list true 3 e4]] [])
 | 0,i,h=>by
  obtain rfl:i=ks.length:=by omega
  apply aj8.ak4
  unfold aj8.L1b
  rw [ad9,cond_false,List.take_length]
  rfl
 | j+1,i,h=>by
  obtain ⟨t,ht⟩:=getL (l:=ks) (i:=i) (by omega)
  have hm:=List.mem_of_getElem? ht
  have ih:=rc_L1 hR hg hl (e1:=e1) (g3:=g3) (e3:=e3) (e4:=e4) j (i+1) (by omega)
  have hr:=hR t hm (bj4 hg hm)
  have hno:=ad6 t
  have hno2:=ad6 (rc t)
  have e:tvs (rcs (ks.take (i+1)))=tvs (rcs (ks.take i))++[tv (rc t)]:=by
   rw [ah5 ht,bd5,bd5,as0,as0,List.map_append,List.map_append];rfl
  rw [e,br4 (by omega)] at ih
  have hlen:(tvs (rcs (ks.take i))).length=i:=by rw [ad8,bd5,List.length_map,List.length_take];omega
  generalize tvs (rcs (ks.take i))=E at ih hlen ⊢
  obtain ⟨tk,tid,tnm,tn,tm,t1,tns,t2,tks,t3,tls,t4,tch⟩:=t
  rw [rc] at hr ih hno2
  rw [tv] at ih hno hno2
  rw [tv,tv] at hr
  have hn:aa0 [V.agg [.int .i64 tk,.str tid,.str tnm,.int .i64 tn,.int .i64 tm,.list t1 1 (aa3 tns),.list t2 9 (tvs tks),.list t3 1 (lvs tls),.list t4 3 (cvs tch)]]=true:=by
   show (ad1 _&&_)=true
   rw [hno];rfl
  apply aj8.ak4
  unfold aj8.L1b
  rw [af3 (by omega)]
  simp -implicitDefEqProofs only [cond_true,aE6 ht,tv,ah7,aC_v,aI_v,aS_v,aL_v,aN_v,hn,ck]
  rw [cP_v hr hno2]
  simp -implicitDefEqProofs only [aA_v,aC_v,aI_v,aS_v,aL_v,aN_v]
  rw [as8 (by rw [hlen];simp;omega) (by omega),w6_1 (show i<9223372036854775807 by omega)]
  rw [show ∀(b:Bool) (v:V),(b||!([v]:List V).isEmpty)=true from fun b v=>by cases b<;>rfl]
  exact ih
theorem rc_L0 (hl:ls.length<=1000000)(hf:(flat ls).length<=1000000){e1 e4:List V}{o:Out}(h1:aj8.L1 RZ false [] f2 (tvs ks) ks.length z0 k id nm n m e1 f2 (tvs ks) (!ls.isEmpty) (lvs (fl1 ls)) e4 [] [] [] []=some o):∀j i:Nat,i+j=ls.length->aj8.L0 RZ (!(ls.take i).isEmpty) (lvs (fl1 (ls.take i))) f3 (lvs ls) ls.length i k id nm n m e1 f2 (tvs ks) f3 (lvs ls) e4 [] [] [] []=some o
 | 0,i,h=>by
  obtain rfl:i=ls.length:=by omega
  apply aj8.ag6
  unfold aj8.L0b
  rw [ad9,cond_false,List.take_length,ad8]
  exact h1
 | j+1,i,h=>by
  obtain ⟨x,hx⟩:=getL (l:=ls) (i:=i) (by omega)
  have hxl:=bf0 (List.mem_of_getElem? hx)
  have ih:=rc_L0 hl hf h1 j (i+1) (by omega)
  have e:lvs (fl1 (ls.take (i+1)))=lvs (fl1 (ls.take i))++[V.list true 1 ([]++ints x.2)]:=by
   rw [ah5 hx];unfold fl1 lvs;rw [List.map_append,List.map_append];rfl
  rw [e,br4 (by omega)] at ih
  apply aj8.ag6
  unfold aj8.L0b
  rw [af3 (by omega)]
  simp -implicitDefEqProofs only [cond_true,aU2 hx,aP6,aC_v,aL_v,aN_v,vL]
  rw [as8 (by rw [am8];simp;omega) (by omega),as8 (by rw [aq7];unfold fl1;rw [List.length_map,List.length_take];simp;omega) (by omega),w6_1 (show i<9223372036854775807 by omega)]
  rw [show ∀(b:Bool) (v:V),(b||!([v]:List V).isEmpty)=true from fun b v=>by cases b<;>rfl]
  exact ih
theorem rc_b (hR:∀t∈ks,RC t):RC (.mk k id nm n m f1 ns f2 ks f3 ls f4 ch):=by
 intro hg
 obtain ⟨⟨a1,a2,a3,a4⟩,⟨b1,b2,b3,b4,b5⟩,⟨c1,c2,c3,c4,c5⟩,d⟩:=hg
 have h1:=rc_L1 (k:=k) (id:=id) (nm:=nm) (n:=n) (m:=m) (f2:=f2) hR d b2 (e1:=[]++aa3 ns) (g3:=!ls.isEmpty) (e3:=lvs (fl1 ls)) (e4:=[]++cvs ch) ks.length 0 (by omega)
 have h0:=rc_L0 (f3:=f3) b3 b5 h1 ls.length 0 (by omega)
 rw [rc,tv,tv]
 apply aj8.b_of
 unfold aj8.b
 rw [as8 (by rw [ae8];simp;omega) (by omega),as8 (by rw [ay0];simp;omega) (by omega),aq7]
 exact h0
end
mutual
theorem rcopy_is :∀t:Ty,RC t
 | .mk k id nm n m f1 ns f2 ks f3 ls f4 ch=>by
  have hR:=bu3 ks
  exact rc_b hR
theorem bu3 :∀ks:List Ty,∀t∈ks,RC t
 | [],t,h=>by simp at h
 | a::r,t,h=>by
  have h1:=rcopy_is a
  rcases List.mem_cons.1 h with e | h
  ·rw [e];exact h1
  ·exact bu3 r t h
end
end Go.Proofs.YtflhfchgdpbhcaaGreat.E
set_option maxRecDepth 100000
namespace Go.Proofs.YtflhfchgdpbhcaaGreat.E
open Go
structure Par where
 nm:ByteArray
 way:Int
 ty:Ty
def Ty.kd :Ty->Int | .mk k _ _ _ _ _ _ _ _ _ _ _ _=>k
def Ty.ident :Ty->ByteArray | .mk _ id _ _ _ _ _ _ _ _ _ _ _=>id
def tcs :Ty->List V
 | .mk k id nm n m f1 ns f2 ks f3 ls f4 ch=>[.int .i64 k,.str id,.str nm,.int .i64 n,.int .i64 m,.list f1 1 (aa3 ns),.list f2 9 (tvs ks),.list f3 1 (lvs ls),.list f4 3 (cvs ch)]
theorem aF7 :∀t,tv t=.agg (tcs t)
 | .mk ..=>by rw [tv,tcs]
def pav (p:Par):V:=.agg (.str p.nm::.int .i64 p.way::tcs p.ty)
def pavs (l:List Par):List V:=l.map pav
theorem as2 (l:List Par):(pavs l).length=l.length:=List.length_map _
theorem aS5 {l:List Par}{i:Nat}{x:Par}(h:l[i]? =some x)(K:V->R):idxK (pavs l) (i:Int) K=K (pav x):=as5 (by unfold pavs;rw [List.getElem?_map,h];rfl) K
structure Opn where
 nm:ByteArray
 ow:Bool
 res:Ty
 pf:Bool
 ps:List Par
 rf:Bool
 rs:List Ty
def opv (o:Opn):V:=.agg (.str o.nm::.bool o.ow::(tcs o.res++[.list o.pf 11 (pavs o.ps),.list o.rf 9 (tvs o.rs)]))
def ax4 :ByteArray:=⟨#[118,111,105,100]⟩
def strip (s:ByteArray):ByteArray:=if 0<s.size/\s[0]? =some 95 then s.extract 1 s.size else s
theorem strip_ok {s:ByteArray}(h:s.size<=1000000):(strip s).size<=1000000:=by
 unfold strip
 split
 ·simp;omega
 ·exact h
theorem bq3 {t:Ty}(hg:gOk t):∃s',RZ.R av1 [.agg (tcs t)] []=some (.ret [.bool (rVB t)] s'):=by
 obtain ⟨h1,h2,h3⟩:=g_t t hg
 rw [←aF7,←valid_eq]
 exact kind_Valid_is h1 h3
theorem bc7 {t:Ty}(hg:gOk t):RZ.R am9 [.agg (tcs t)] []=some (.ret [.bool (rVB t)] []):=by
 obtain ⟨h1,h2,h3⟩:=g_t t hg
 rw [←aF7]
 exact Valid_is h1 h2
theorem aB3 (t:Ty):aa0 [V.agg (tcs t)]=true:=by
 have:=ad6 t
 rw [aF7] at this
 rw [aa0,this];rfl
theorem no_tcs2 (t:Ty)(b:Bool):aa0 [V.agg (tcs t),.bool b]=true:=by
 have:=ad6 t
 rw [aF7] at this
 show (ad1 _&&_)=true
 rw [this];rfl
theorem plain_is {t:Ty}(hg:gOk t)(b:Bool):RZ.R aH2 [.agg (tcs t),.bool b] []=some (.ret [.bool (rVB t&&(t.kd !=15&&(b||t.kd !=0)))] []):=by
 obtain ⟨s',hv⟩:=bq3 hg
 have hn:=aB3 t
 have J:∀b,aK1.J0 RZ b=some (.ret [.bool b] []):=fun b=>aK1.ad0 b rfl
 obtain ⟨k,id,nm,n,m,f1,ns,f2,ks,f3,ls,f4,ch⟩:=t
 rw [tcs] at hv hn ⊢
 apply aK1.b_of
 unfold aK1.b
 simp -implicitDefEqProofs only [hn,ck,cond_true]
 rw [cP_v hv rfl]
 simp -implicitDefEqProofs only [aB_v,J,ac4]
 refine ac3 ?_
 show _=(rVB _&&(k !=15&&(b||k !=0)))
 rw [show (k !=z0)=(k !=0) from rfl]
 cases rVB (.mk k id nm n m f1 ns f2 ks f3 ls f4 ch)<;>cases (k !=15)<;>cases (k !=0)<;>cases b<;>rfl
theorem part_is {t:Ty}(hg:gOk t):RZ.R aH3 [.agg (tcs t)] []=some (.ret [.bool (rVB t&&(t.kd !=15&&(false||t.kd !=0)))] []):=by
 have hv:=bc7 hg
 have hn:=aB3 t
 have J:∀b,aK4.J0 RZ b=some (.ret [.bool b] []):=fun b=>aK4.ad0 b rfl
 obtain ⟨k,id,nm,n,m,f1,ns,f2,ks,f3,ls,f4,ch⟩:=t
 rw [tcs] at hv hn ⊢
 apply aK4.b_of
 unfold aK4.b
 simp -implicitDefEqProofs only [hn,ck,cond_true,hv,cP_B,aB_v,J,ac4]
 refine ac3 ?_
 show _=(rVB _&&(k !=15&&(false||k !=0)))
 rw [show (k !=z0)=(k !=0) from rfl]
 cases rVB (.mk k id nm n m f1 ns f2 ks f3 ls f4 ch)<;>cases (k !=15)<;>cases (k !=0)<;>rfl
def pOk (p:Par):Bool:=af2 p.nm&&(!decide (p.nm=ax4)&&((rVB p.ty&&(p.ty.kd !=15&&(false||p.ty.kd !=0)))&&(decide (1<=p.way)&&decide (p.way<=3))))
def prF (l:List Par):Nat->Nat->Bool
 | 0,_=>true
 | k+1,i=>(match l[i]? with | some p=>pOk p&&!hasS p.nm ((l.take i).map (·.nm)) | none=>false)&&prF l k (i+1)
def raF (l:List Ty):Nat->Nat->Bool
 | 0,_=>true
 | k+1,i=>(match l[i]? with | some t=>rVB t&&(t.kd==15&&!hasS t.ident ((l.take i).map (·.ident))) | none=>false)&&raF l k (i+1)
def outF (l:List Par):Nat->Nat->Nat
 | 0,_=>0
 | k+1,i=>(match l[i]? with | some p=>if p.way=1 then 0 else 1 | none=>0)+outF l k (i+1)
def outs (o:Opn):Nat:=(if o.res.kd=0 then 0 else 1)+outF o.ps o.ps.length 0
def vopB (o:Opn):Bool:=(af2 (strip o.nm)&&((rVB o.res&&(o.res.kd !=15&&(true||o.res.kd !=0)))&&(decide (o.ps.length<=24)&&decide (o.rs.length<=24))))&&(prF o.ps o.ps.length 0&&(raF o.rs o.rs.length 0&&(decide (outs o<=24)&&(!o.ow||(decide (outs o=0)&&decide (o.rs.length=0))))))
end Go.Proofs.YtflhfchgdpbhcaaGreat.E
set_option maxRecDepth 100000
namespace Go.Proofs.YtflhfchgdpbhcaaGreat.E
open Go
theorem rdN_new {s:List O}{cs:List (V×Bool)}{off n:Nat}{c:List (V×Bool)}(h:taken n (cs.drop off)=some c)(K:List V->R):rdN (s++[O.box cs]) s.length off n K=K (c.map (·.1)):=by
 unfold rdN
 rw [bk9]
 simp only [h]
section
variable {nm:ByteArray} {m:Bool} {s:List O} {cs:List (V×Bool)} {fl:Bool} {ix:Nat}
theorem vo1_is (p:Par)(hx:s[ix]? =some (.box cs))(h0:cs[0]? =some (.str nm,fl)):RZ.R 23 ([]++[pav p]++[.obj ix 0]) s=some (.ret [.bool (decide (p.nm=nm))] s):=by
 obtain ⟨pn,pw,k,id,tn,n,mm,f1,ns,f2,ks,f3,ls,f4,ch⟩:=p
 apply aM9.b_of
 unfold aM9.b
 rw [ax5 hx h0,aS_v,strB]
 rfl
theorem pcon_is {l:List Par}(hl:l.length<=1000000)(hx:s[ix]? =some (.box cs))(h0:cs[0]? =some (.str nm,fl)):RZ.R ag4 [.list m 11 (pavs l),.func (.func 23) [] [.obj ix 0]] s=some (.ret [.bool (hasS nm (l.map (·.nm)))] s):=by
 have L:∀j i:Nat,i+j=l.length->∃r:Int,ab2.L0 RZ m (pavs l) (.func (.func 23) [] [.obj ix 0]) l.length i s=some (.ret [.int .i64 r] s)/\decide (r>=0)=hasS nm ((l.drop i).map (·.nm)):=by
  intro j
  induction j with
  | zero=>
   intro i h
   obtain rfl:i=l.length:=by omega
   refine ⟨-1,?_,by rw [List.drop_length];rfl⟩
   apply ab2.ag6
   unfold ab2.L0b
   rw [ad9,cond_false]
   rfl
  | succ j ih=>
   intro i h
   obtain ⟨p,hp⟩:=getL (l:=l) (i:=i) (by omega)
   have hv:=vo1_is (nm:=nm) p hx h0
   have hc:=fun {K KP}=>bF9 (s:=s) (K:=K) (KP:=KP) (by kernel_rfl) hv rfl
   have hpa:=aS5 hp
   rw [am5 hp,List.map_cons,hasS]
   obtain ⟨pn,pw,k,id,tn,n,mm,f1,ns,f2,ks,f3,ls,f4,ch⟩:=p
   simp only [pav,tcs] at hc hpa
   have step:∀r:Int,(bif decide (pn=nm) then retR [(.int .i64 i)] s else ab2.L0 RZ m (pavs l) (.func (.func 23) [] [.obj ix 0]) l.length ((i+1:Nat):Int) s)=some (.ret [.int .i64 r] s)->ab2.L0 RZ m (pavs l) (.func (.func 23) [] [.obj ix 0]) l.length i s=some (.ret [.int .i64 r] s):=by
    intro r e
    apply ab2.ag6
    unfold ab2.L0b
    rw [af3 (by omega),cond_true]
    simp -implicitDefEqProofs only [hpa,ah7,aC_v,aS_v,aI_v,aL_v,aN_v,vA,vS,vI,vL]
    rw [hc]
    simp -implicitDefEqProofs only [aB_v]
    rw [w6_1 (show i<9223372036854775807 by omega)]
    exact e
   by_cases e:pn=nm
   ·refine ⟨i,step _ (by rw [decide_eq_true e];rfl),?_⟩
    rw [decide_eq_true (show nm=pn from e.symm),decide_eq_true (by omega)];rfl
   ·obtain ⟨r,i1,i2⟩:=ih (i+1) (by omega)
    refine ⟨r,step _ (by rw [decide_eq_false e,cond_false];exact i1),?_⟩
    rw [decide_eq_false (show ¬nm=pn from fun h=>e h.symm),Bool.false_or]
    exact i2
 obtain ⟨r,i1,i2⟩:=L l.length 0 (by omega)
 rw [List.drop_zero] at i2
 have hin:RZ.R ah6 [.list m 11 (pavs l),.func (.func 23) [] [.obj ix 0]] s=some (.ret [.int .i64 r] s):=by
  apply ab2.b_of
  unfold ab2.b
  rw [as2]
  exact i1
 apply ah1.b_of
 unfold ah1.b
 rw [show (List.all [vL m 11 (pavs l),V.func (.func 23) [] [.obj ix 0]] am0)=true from rfl]
 simp only [ck,cond_true]
 rw [cS_v hin]
 simp -implicitDefEqProofs only [aI_v,i2,aq6,vB]
theorem vo2_is (t:Ty)(hx:s[ix]? =some (.box cs))(h0:cs[1]? =some (.str nm,fl)):RZ.R 26 ([]++[tv t]++[.obj ix 0]) s=some (.ret [.bool (decide (t.ident=nm))] s):=by
 obtain ⟨k,id,tn,n,mm,f1,ns,f2,ks,f3,ls,f4,ch⟩:=t
 rw [tv]
 apply aM8.b_of
 unfold aM8.b
 rw [ax5 hx h0,aS_v,strB]
 rfl
theorem tcon_is {l:List Ty}(hl:l.length<=1000000)(hx:s[ix]? =some (.box cs))(h0:cs[1]? =some (.str nm,fl)):RZ.R ah4 [.list m 9 (tvs l),.func (.func 26) [] [.obj ix 0]] s=some (.ret [.bool (hasS nm (l.map (·.ident)))] s):=by
 have L:∀j i:Nat,i+j=l.length->∃r:Int,ab5.L0 RZ m (tvs l) (.func (.func 26) [] [.obj ix 0]) l.length i s=some (.ret [.int .i64 r] s)/\decide (r>=0)=hasS nm ((l.drop i).map (·.ident)):=by
  intro j
  induction j with
  | zero=>
   intro i h
   obtain rfl:i=l.length:=by omega
   refine ⟨-1,?_,by rw [List.drop_length];rfl⟩
   apply ab5.ag6
   unfold ab5.L0b
   rw [ad9,cond_false]
   rfl
  | succ j ih=>
   intro i h
   obtain ⟨t,ht⟩:=getL (l:=l) (i:=i) (by omega)
   have hv:=vo2_is (nm:=nm) t hx h0
   have hc:=fun {K KP}=>bF9 (s:=s) (K:=K) (KP:=KP) (by kernel_rfl) hv (by rw [aF7];rfl)
   have hpa:=aE6 ht
   rw [am5 ht,List.map_cons,hasS]
   obtain ⟨k,id,tn,n,mm,f1,ns,f2,ks,f3,ls,f4,ch⟩:=t
   simp only [tv] at hc hpa
   have step:∀r:Int,(bif decide (id=nm) then retR [(.int .i64 i)] s else ab5.L0 RZ m (tvs l) (.func (.func 26) [] [.obj ix 0]) l.length ((i+1:Nat):Int) s)=some (.ret [.int .i64 r] s)->ab5.L0 RZ m (tvs l) (.func (.func 26) [] [.obj ix 0]) l.length i s=some (.ret [.int .i64 r] s):=by
    intro r e
    apply ab5.ag6
    unfold ab5.L0b
    rw [af3 (by omega),cond_true]
    simp -implicitDefEqProofs only [hpa,ah7,aC_v,aS_v,aI_v,aL_v,aN_v,vI]
    rw [hc]
    simp -implicitDefEqProofs only [aB_v]
    rw [w6_1 (show i<9223372036854775807 by omega)]
    exact e
   by_cases e:id=nm
   ·refine ⟨i,step _ (by rw [decide_eq_true e];rfl),?_⟩
    rw [show (Ty.mk k id tn n mm f1 ns f2 ks f3 ls f4 ch).ident=id from rfl,decide_eq_true (show nm=id from e.symm),decide_eq_true (by omega)];rfl
   ·obtain ⟨r,i1,i2⟩:=ih (i+1) (by omega)
    refine ⟨r,step _ (by rw [decide_eq_false e,cond_false];exact i1),?_⟩
    rw [show (Ty.mk k id tn n mm f1 ns f2 ks f3 ls f4 ch).ident=id from rfl,decide_eq_false (show ¬nm=id from fun h=>e h.symm),Bool.false_or]
    exact i2
 obtain ⟨r,i1,i2⟩:=L l.length 0 (by omega)
 rw [List.drop_zero] at i2
 have hin:RZ.R aj5 [.list m 9 (tvs l),.func (.func 26) [] [.obj ix 0]] s=some (.ret [.int .i64 r] s):=by
  apply ab5.b_of
  unfold ab5.b
  rw [ad8]
  exact i1
 apply ah9.b_of
 unfold ah9.b
 rw [show (List.all [vL m 9 (tvs l),V.func (.func 26) [] [.obj ix 0]] am0)=true from rfl]
 simp only [ck,cond_true]
 rw [cS_v hin]
 simp -implicitDefEqProofs only [aI_v,i2,aq6,vB]
end
theorem take_pavs (l:List Par)(i:Nat):((pavs l).take ((i:Int)).toNat).drop (z0:Int).toNat=pavs (l.take i):=by
 unfold pavs
 rw [←List.map_take]
 rfl
theorem take_tvs (l:List Ty)(i:Nat):((tvs l).take ((i:Int)).toNat).drop (z0:Int).toNat=tvs (l.take i):=by
 rw [as0,as0,←List.map_take]
 rfl
section
variable {s1:ByteArray} {b2:Bool} {n3:Int} {s4 s5:ByteArray} {n6 n7:Int} {m8:Bool} {e9:List V} {m10:Bool} {e11:List V} {m12:Bool} {e13:List V} {m14:Bool} {e15:List V} {m16 m18:Bool} {ps:List Par} {rs:List Ty}
theorem vo_L7 (hg:gsOk rs)(hl:rs.length<=24)(c:Nat)(hc:c<=1000):∀j i:Nat,i+j=rs.length->∀s,∃s',aa6.L7 RZ s1 b2 n3 s4 s5 n6 n7 m8 e9 m10 e11 m12 e13 m14 e15 m16 (pavs ps) m18 (tvs rs) (c:Int) m18 (tvs rs) rs.length i s=some (.ret [.bool (raF rs j i&&(decide (c<=24)&&(!b2||(decide (c=0)&&decide (rs.length=0)))))] s')
 | 0,i,h,s=>by
  obtain rfl:i=rs.length:=by omega
  have J9:∀b,aa6.J9 RZ b s=some (.ret [.bool b] s):=fun b=>aa6.J9_of b s rfl
  refine ⟨s,?_⟩
  apply aa6.L7_of
  unfold aa6.L7b
  rw [ad9,cond_false,ad8,w6_i (x:=(c:Int)+rs.length) (by omega)]
  simp -implicitDefEqProofs only [J9,ac4,raF,Bool.true_and]
  refine ac3 ?_
  rw [show decide ((c:Int)<=24)=decide (c<=24) by by_cases h:c<=24<;>simp [h]<;>omega,show (!decide ((c:Int)+rs.length>0))=(decide (c=0)&&decide (rs.length=0)) by
   rw [Bool.eq_iff_iff,Bool.not_eq_true',decide_eq_false_iff_not,Bool.and_eq_true,decide_eq_true_eq,decide_eq_true_eq];omega]
  generalize (decide (c=0)&&decide (rs.length=0))=x
  cases decide (c<=24)<;>cases b2<;>cases x<;>rfl
 | j+1,i,h,s=>by
  obtain ⟨t,ht⟩:=getL (l:=rs) (i:=i) (by omega)
  obtain ⟨sv,hv⟩:=bq3 (bj4 hg (List.mem_of_getElem? ht))
  have hn:=aB3 t
  have ih:=vo_L7 hg hl c hc j (i+1) (by omega)
  have J8:∀b s,∃s',aa6.J8 RZ s1 b2 n3 s4 s5 n6 n7 m8 e9 m10 e11 m12 e13 m14 e15 m16 (pavs ps) m18 (tvs rs) (c:Int) m18 (tvs rs) rs.length i b s=some (.ret [.bool (!b&&(raF rs j (i+1)&&(decide (c<=24)&&(!b2||(decide (c=0)&&decide (rs.length=0))))))] s'):=by
   intro b s
   cases b with
   | true=>exact ⟨s,aa6.bF7 _ _ _ _ _ _ _ _ _ _ _ _ _ _ _ _ _ _ _ _ _ _ _ _ true s rfl⟩
   | false=>
    obtain ⟨s',hs⟩:=ih s
    refine ⟨s',?_⟩
    apply aa6.bF7
    unfold aa6.J8b
    rw [cond_false,w6_1 (show i<9223372036854775807 by omega)]
    exact hs
  rw [raF,ht]
  have hpa:=aE6 ht
  have htk:=take_tvs rs i
  obtain ⟨k,id,tn,n,mm,f1,ns,f2,ks,f3,ls,f4,ch⟩:=t
  rw [tcs] at hv hn
  rw [tv] at hpa
  have ⟨cs,hcs⟩:∃cs:List (V×Bool),cs=[((vI k),false),((vS id),false),((vS tn),false),((vI n),false),((vI mm),false),((vL f1 1 (aa3 ns)),(nilB (vL f1 1 (aa3 ns)))),((vL f2 9 (tvs ks)),(nilB (vL f2 9 (tvs ks)))),((vL f3 1 (lvs ls)),(nilB (vL f3 1 (lvs ls)))),((vL f4 3 (cvs ch)),(nilB (vL f4 3 (cvs ch))))]:=⟨_,rfl⟩
  have hcon:=tcon_is (m:=m18) (nm:=id) (s:=s++[O.box cs]) (ix:=s.length) (cs:=cs) (l:=rs.take i) (fl:=false) (by rw [List.length_take];omega) (bk9 _ _) (by rw [hcs];rfl)
  obtain ⟨s',hs'⟩:=J8 (!(rVB (.mk k id tn n mm f1 ns f2 ks f3 ls f4 ch)&&(k==15&&!hasS id ((rs.take i).map (·.ident))))) (s++[O.box cs])
  refine ⟨s',?_⟩
  apply aa6.L7_of
  unfold aa6.L7b
  rw [af3 (by omega),cond_true]
  simp -implicitDefEqProofs only [hpa,ah7,aC_v,aS_v,aI_v,aL_v,aN_v]
  rw [←hcs,bx4 (old:=[((vI 0),false),((vS (⟨#[]⟩:ByteArray)),false),((vS (⟨#[]⟩:ByteArray)),false),((vI 0),false),((vI 0),false),((vL false 1 []),true),((vL false 9 []),true),((vL false 1 []),true),((vL false 3 []),true)]) (new:=cs) (by rw [hcs];rfl),rdN_new (c:=cs) (by rw [hcs];rfl)]
  rw [show cs.map (·.1)=[V.int .i64 k,.str id,.str tn,.int .i64 n,.int .i64 mm,.list f1 1 (aa3 ns),.list f2 9 (tvs ks),.list f3 1 (lvs ls),.list f4 3 (cvs ch)] by rw [hcs];rfl]
  rw [show ∀K,aA8 [V.int .i64 k,.str id,.str tn,.int .i64 n,.int .i64 mm,.list f1 1 (aa3 ns),.list f2 9 (tvs ks),.list f3 1 (lvs ls),.list f4 3 (cvs ch)] K=K from fun _=>rfl]
  simp -implicitDefEqProofs only [vA,aA_v,aC_v,aI_v,aS_v,aL_v,aN_v,vL,hn,ck,cond_true]
  rw [cP_v hv rfl,aB_v,aG5 (v:=.int .i64 k) (f:=false) (by rw [hcs];rfl),aI_v,ad8,htk,show (decide (0<=z0)&&(decide (z0<=(i:Int))&&decide ((i:Int)<=(rs.length:Int))))=true by
   rw [show z0=(0:Int) from rfl,decide_eq_true (by omega),decide_eq_true (by omega),decide_eq_true (by omega)];rfl,cond_true,vO,cS_v hcon,aB_v]
  rw [show (Ty.mk k id tn n mm f1 ns f2 ks f3 ls f4 ch).ident=id from rfl,show (Ty.mk k id tn n mm f1 ns f2 ks f3 ls f4 ch).kd=k from rfl]
  generalize rVB (.mk k id tn n mm f1 ns f2 ks f3 ls f4 ch)=x at hs' ⊢
  generalize hasS id ((rs.take i).map (·.ident))=y at hs' ⊢
  rw [show (k !=15)= !(k==15) from rfl]
  generalize (k==15)=z at hs' ⊢
  generalize raF rs j (i+1)=r at hs' ⊢
  generalize (decide (c<=24)&&(!b2||(decide (c=0)&&decide (rs.length=0))))=q at hs' ⊢
  cases x with
  | false=>
   rw [Bool.not_false,cond_true]
   rw [Bool.false_and,Bool.not_false] at hs'
   exact hs'.trans (ac3 rfl)
  | true=>
   rw [Bool.not_true,cond_false]
   cases z with
   | false=>
    rw [Bool.not_false,cond_true]
    rw [Bool.false_and,Bool.and_false,Bool.not_false] at hs'
    exact hs'.trans (ac3 rfl)
   | true=>
    rw [Bool.not_true,cond_false]
    rw [Bool.true_and,Bool.true_and,Bool.not_not] at hs'
    exact hs'.trans (ac3 (by cases y<;>cases r<;>cases q<;>rfl))
end
end Go.Proofs.YtflhfchgdpbhcaaGreat.E
set_option maxRecDepth 100000
namespace Go.Proofs.YtflhfchgdpbhcaaGreat.E
open Go
def psOk (l:List Par):Prop:=∀p∈l,sOk p.nm/\gOk p.ty
section
variable {s1:ByteArray} {b2:Bool} {n3:Int} {s4 s5:ByteArray} {n6 n7:Int} {m8:Bool} {e9:List V} {m10:Bool} {e11:List V} {m12:Bool} {e13:List V} {m14:Bool} {e15:List V} {m16 m18:Bool} {ps:List Par} {rs:List Ty}
theorem vo_L4 (hp:psOk ps)(hl:ps.length<=24){Q:Nat->Bool}(h7:∀c:Nat,c<=1000->∀s,∃s',aa6.L7 RZ s1 b2 n3 s4 s5 n6 n7 m8 e9 m10 e11 m12 e13 m14 e15 m16 (pavs ps) m18 (tvs rs) (c:Int) m18 (tvs rs) rs.length z0 s=some (.ret [.bool (Q c)] s')):∀j i:Nat,i+j=ps.length->∀c:Nat,c<=i+1->∀s,∃s',aa6.L4 RZ s1 b2 n3 s4 s5 n6 n7 m8 e9 m10 e11 m12 e13 m14 e15 m16 (pavs ps) m18 (tvs rs) (c:Int) m16 (pavs ps) ps.length i s=some (.ret [.bool (prF ps j i&&Q (c+outF ps j i))] s')
 | 0,i,h,c,hc,s=>by
  obtain rfl:i=ps.length:=by omega
  obtain ⟨s',hs⟩:=h7 c (by omega) s
  refine ⟨s',?_⟩
  apply aa6.aE4
  unfold aa6.L4b
  rw [ad9,cond_false,ad8,prF,outF,Nat.add_zero,Bool.true_and]
  exact hs
 | j+1,i,h,c,hc,s=>by
  obtain ⟨p,ht⟩:=getL (l:=ps) (i:=i) (by omega)
  have hpo:=hp p (List.mem_of_getElem? ht)
  have hpl:=plain_is hpo.2 false
  have hn:=no_tcs2 p.ty false
  have hnm:=az3 (s:=p.nm) (by have:=hpo.1;unfold sOk at this;omega)
  have ih:=vo_L4 hp hl h7 j (i+1) (by omega)
  have hpa:=aS5 ht
  have htk:=take_pavs ps i
  obtain ⟨pn,pw,k,id,tn,n,mm,f1,ns,f2,ks,f3,ls,f4,ch⟩:=p
  simp only [pav,tcs] at hpa
  rw [tcs] at hpl hn
  have ⟨cs,hcs⟩:∃cs:List (V×Bool),cs=[((vS pn),false),((vI pw),false),((vI k),false),((vS id),false),((vS tn),false),((vI n),false),((vI mm),false),((vL f1 1 (aa3 ns)),(nilB (vL f1 1 (aa3 ns)))),((vL f2 9 (tvs ks)),(nilB (vL f2 9 (tvs ks)))),((vL f3 1 (lvs ls)),(nilB (vL f3 1 (lvs ls)))),((vL f4 3 (cvs ch)),(nilB (vL f4 3 (cvs ch))))]:=⟨_,rfl⟩
  have h0:cs[0]? =some (.str pn,false):=by rw [hcs];rfl
  have h1:cs[1]? =some (.int .i64 pw,false):=by rw [hcs];rfl
  have hcon:=pcon_is (m:=m16) (nm:=pn) (s:=s++[O.box cs]) (ix:=s.length) (cs:=cs) (l:=ps.take i) (fl:=false) (by rw [List.length_take];omega) (bk9 _ _) h0
  have J5:∀b,∃s',aa6.J5 RZ s1 b2 n3 s4 s5 n6 n7 m8 e9 m10 e11 m12 e13 m14 e15 m16 (pavs ps) m18 (tvs rs) (c:Int) s.length m16 (pavs ps) ps.length i b (s++[O.box cs])=some (.ret [.bool (!b&&(prF ps j (i+1)&&Q (c+((if pw=1 then 0 else 1)+outF ps j (i+1)))))] s'):=by
   intro b
   cases b with
   | true=>exact ⟨_,aa6.aM6 _ _ _ _ _ _ _ _ _ _ _ _ _ _ _ _ _ _ _ _ _ _ _ _ _ true _ rfl⟩
   | false=>
    by_cases h1w:pw=1
    ·obtain ⟨s',hs⟩:=ih c (by omega) (s++[O.box cs])
     refine ⟨s',?_⟩
     apply aa6.aM6
     unfold aa6.J5b
     rw [cond_false,aG5 h1,aI_v,show (pw !=z1)=false by rw [h1w];rfl,cond_false]
     apply aa6.aV8
     unfold aa6.J6b
     rw [w6_1 (show i<9223372036854775807 by omega)]
     exact hs.trans (ac3 (by rw [if_pos h1w,Nat.zero_add];rfl))
    ·obtain ⟨s',hs⟩:=ih (c+1) (by omega) (s++[O.box cs])
     refine ⟨s',?_⟩
     apply aa6.aM6
     unfold aa6.J5b
     rw [cond_false,aG5 h1,aI_v,show (pw !=z1)=true from bne_iff_ne.2 h1w,cond_true,w6_1 (show c<9223372036854775807 by omega)]
     apply aa6.aV8
     unfold aa6.J6b
     rw [w6_1 (show i<9223372036854775807 by omega)]
     exact hs.trans (ac3 (by rw [if_neg h1w,Nat.add_assoc];rfl))
  rw [prF,outF,ht]
  show ∃s',(_:R)=some (Out.ret [V.bool ((pOk ⟨pn,pw,.mk k id tn n mm f1 ns f2 ks f3 ls f4 ch⟩&&!hasS pn ((ps.take i).map (·.nm)))&&prF ps j (i+1)&&Q (c+((if pw=1 then 0 else 1)+outF ps j (i+1))))] s')
  obtain ⟨s',hs'⟩:=J5 (!(pOk ⟨pn,pw,.mk k id tn n mm f1 ns f2 ks f3 ls f4 ch⟩&&!hasS pn ((ps.take i).map (·.nm))))
  refine ⟨s',?_⟩
  apply aa6.aE4
  unfold aa6.L4b
  rw [af3 (by omega),cond_true]
  simp -implicitDefEqProofs only [hpa,ah7,aC_v,aS_v,aI_v,aL_v,aN_v]
  rw [←hcs,bx4 (old:=[((vS (⟨#[]⟩:ByteArray)),false),((vI 0),false),((vI 0),false),((vS (⟨#[]⟩:ByteArray)),false),((vS (⟨#[]⟩:ByteArray)),false),((vI 0),false),((vI 0),false),((vL false 1 []),true),((vL false 9 []),true),((vL false 1 []),true),((vL false 3 []),true)]) (new:=cs) (by rw [hcs];rfl)]
  simp -implicitDefEqProofs only [aG5 h0,aG5 h1,aS_v,aI_v,vS,hnm,cP_B,aB_v,strB]
  rw [rdN_new (c:=cs.drop 2) (by rw [hcs];rfl),show (cs.drop 2).map (·.1)=[V.int .i64 k,.str id,.str tn,.int .i64 n,.int .i64 mm,.list f1 1 (aa3 ns),.list f2 9 (tvs ks),.list f3 1 (lvs ls),.list f4 3 (cvs ch)] by rw [hcs];rfl]
  rw [show ∀K,aA8 [V.int .i64 k,.str id,.str tn,.int .i64 n,.int .i64 mm,.list f1 1 (aa3 ns),.list f2 9 (tvs ks),.list f3 1 (lvs ls),.list f4 3 (cvs ch)] K=K from fun _=>rfl]
  simp -implicitDefEqProofs only [vA,aA_v,aC_v,aI_v,aS_v,aL_v,aN_v,vL,vB,hn,ck,cond_true,hpl,cP_B,aB_v]
  rw [as2,htk,show (decide (0<=z0)&&(decide (z0<=(i:Int))&&decide ((i:Int)<=(ps.length:Int))))=true by
   rw [show z0=(0:Int) from rfl,decide_eq_true (by omega),decide_eq_true (by omega),decide_eq_true (by omega)];rfl,cond_true,vO,cS_v hcon,aB_v]
  unfold pOk at hs' ⊢
  rw [show (⟨#[118,111,105,100]⟩:ByteArray)=ax4 from rfl]
  rw [show decide (pw<1)= !decide (1<=pw) by by_cases h:1<=pw<;>simp [h]<;>omega,show decide (pw>3)= !decide (pw<=3) by by_cases h:pw<=3<;>simp [h]<;>omega]
  simp only at hs' ⊢
  generalize (rVB (.mk k id tn n mm f1 ns f2 ks f3 ls f4 ch)&&((Ty.mk k id tn n mm f1 ns f2 ks f3 ls f4 ch).kd !=15&&(false||(Ty.mk k id tn n mm f1 ns f2 ks f3 ls f4 ch).kd !=0)))=x at hs' ⊢
  generalize hasS pn ((ps.take i).map (·.nm))=y at hs' ⊢
  generalize af2 pn=a1 at hs' ⊢
  generalize decide (pn=ax4)=a2 at hs' ⊢
  generalize decide (1<=pw)=a3 at hs' ⊢
  generalize decide (pw<=3)=a4 at hs' ⊢
  generalize prF ps j (i+1)=r at hs' ⊢
  generalize Q (c+((if pw=1 then 0 else 1)+outF ps j (i+1)))=q at hs' ⊢
  cases a1 with
  | false=>
   rw [Bool.not_false,cond_true]
   rw [Bool.false_and,Bool.false_and,Bool.not_false] at hs'
   exact hs'.trans (ac3 rfl)
  | true=>
   rw [Bool.not_true,cond_false]
   rw [Bool.true_and] at hs'
   cases a2 with
   | true=>
    rw [cond_true]
    rw [Bool.not_true,Bool.false_and,Bool.false_and,Bool.not_false] at hs'
    exact hs'.trans (ac3 rfl)
   | false=>
    rw [cond_false]
    rw [Bool.not_false,Bool.true_and] at hs'
    cases x with
    | false=>
     rw [Bool.not_false,cond_true]
     rw [Bool.false_and,Bool.false_and,Bool.not_false] at hs'
     exact hs'.trans (ac3 rfl)
    | true=>
     rw [Bool.not_true,cond_false]
     rw [Bool.true_and] at hs'
     cases a3 with
     | false=>
      rw [Bool.not_false,cond_true]
      rw [Bool.false_and,Bool.false_and,Bool.not_false] at hs'
      exact hs'.trans (ac3 rfl)
     | true=>
      rw [Bool.not_true,cond_false]
      rw [Bool.true_and] at hs'
      cases a4 with
      | false=>
       rw [Bool.not_false,cond_true]
       rw [Bool.false_and,Bool.not_false] at hs'
       exact hs'.trans (ac3 rfl)
      | true=>
       rw [Bool.not_true,cond_false]
       rw [Bool.true_and,Bool.not_not] at hs'
       exact hs'.trans (ac3 (by cases y<;>cases r<;>cases q<;>rfl))
end
theorem strip_0 {s:ByteArray}:((s.size==0)=true->strip s=s)/\(∀c,s[0]? =some c->(c.toNat:Int)≠95->strip s=s)/\(∀c,s[0]? =some c->(c.toNat:Int)=95->strip s=s.extract 1 s.size):=by
 unfold strip
 refine ⟨fun h=>?_,fun c h h2=>?_,fun c h h2=>?_⟩
 ·rw [if_neg]
  rw [beq_iff_eq] at h
  omega
 ·rw [if_neg]
  rintro ⟨h3,h4⟩
  rw [h] at h4
  simp at h4
  rw [h4] at h2
  exact h2 rfl
 ·rw [if_pos]
  refine ⟨?_,?_⟩
  ·by_cases hs:0<s.size
   ·exact hs
   ·have:s=⟨#[]⟩:=(eq_empty s).2 (by omega)
    rw [this] at h
    cases h
  ·rw [h]
   congr 1
   exact UInt8.toNat_inj.1 (by show c.toNat=95;omega)
end Go.Proofs.YtflhfchgdpbhcaaGreat.E
set_option maxRecDepth 100000
namespace Go.Proofs.YtflhfchgdpbhcaaGreat.E
open Go
def opOk (o:Opn):Prop:=o.nm.size<=1000000/\gOk o.res/\psOk o.ps/\gsOk o.rs/\(o.pf=false->o.ps=[])/\(o.rf=false->o.rs=[])/\o.ps.length<=1000000/\o.rs.length<=1000000
theorem aX4 {o:Opn}(ho:opOk o):∃s',RZ.R au3 [opv o] []=some (.ret [.bool (vopB o)] s'):=by
 obtain ⟨a1,a2,a3,a4,a5,a6,a7,a8⟩:=ho
 obtain ⟨onm,ow,res,pf,ps,rf,rs⟩:=o
 simp only at a1 a2 a3 a4 a5 a6 a7 a8
 have hpl:=plain_is a2 true
 have hn:=no_tcs2 res true
 have hso:=strip_ok a1
 have hnm:=az3 (s:=strip onm) (by omega)
 have hst:=strip_0 (s:=onm)
 unfold vopB opv outs
 simp only
 generalize hres:(rVB res&&(res.kd !=15&&(true||res.kd !=0)))=rb at hpl ⊢
 have hkd:∃k,res.kd=k:=⟨_,rfl⟩
 obtain ⟨k,id,tn,n,mm,f1,ns,f2,ks,f3,ls,f4,ch⟩:=res
 rw [show (Ty.mk k id tn n mm f1 ns f2 ks f3 ls f4 ch).kd=k from rfl]
 rw [tcs] at hpl hn ⊢
 have J3:ps.length<=24->rs.length<=24->∀c:Nat,c<=1->∃s',aa6.J3 RZ onm ow k id tn n mm f1 (aa3 ns) f2 (tvs ks) f3 (lvs ls) f4 (cvs ch) pf (pavs ps) rf (tvs rs) (c:Int)=some (.ret [.bool (prF ps ps.length 0&&(raF rs rs.length 0&&(decide (c+outF ps ps.length 0<=24)&&(!ow||(decide (c+outF ps ps.length 0=0)&&decide (rs.length=0))))))] s'):=by
  intro hp24 hr24 c hc
  obtain ⟨s',hs⟩:=vo_L4 (s1:=onm) (b2:=ow) (n3:=k) (s4:=id) (s5:=tn) (n6:=n) (n7:=mm) (m8:=f1) (e9:=aa3 ns) (m10:=f2) (e11:=tvs ks) (m12:=f3) (e13:=lvs ls) (m14:=f4) (e15:=cvs ch) (m16:=pf) (m18:=rf) (rs:=rs) a3 hp24 (Q:=fun c=>raF rs rs.length 0&&(decide (c<=24)&&(!ow||(decide (c=0)&&decide (rs.length=0)))))
   (fun c hc s=>vo_L7 a4 hr24 c hc rs.length 0 (by omega) s) ps.length 0 (by omega) c (by omega) []
  refine ⟨s',?_⟩
  apply aa6.aH9
  unfold aa6.J3b
  rw [as2]
  exact hs
 have J2:∀b,(b=false->ps.length<=24/\rs.length<=24)->∃s',aa6.J2 RZ onm ow k id tn n mm f1 (aa3 ns) f2 (tvs ks) f3 (lvs ls) f4 (cvs ch) pf (pavs ps) rf (tvs rs) b=some (.ret [.bool (!b&&(prF ps ps.length 0&&(raF rs rs.length 0&&(decide ((if k=0 then 0 else 1)+outF ps ps.length 0<=24)&&(!ow||(decide ((if k=0 then 0 else 1)+outF ps ps.length 0=0)&&decide (rs.length=0)))))))] s'):=by
  intro b hb
  cases b with
  | true=>exact ⟨_,aa6.ak5 _ _ _ _ _ _ _ _ _ _ _ _ _ _ _ _ _ _ _ true rfl⟩
  | false=>
   obtain ⟨h1,h2⟩:=hb rfl
   by_cases h0:k=0
   ·obtain ⟨s',hs⟩:=J3 h1 h2 0 (by omega)
    refine ⟨s',?_⟩
    apply aa6.ak5
    unfold aa6.J2b
    rw [cond_false,show (k !=z0)=false by rw [h0];rfl,cond_false]
    exact hs.trans (ac3 (by rw [if_pos h0];rfl))
   ·obtain ⟨s',hs⟩:=J3 h1 h2 1 (by omega)
    refine ⟨s',?_⟩
    apply aa6.ak5
    unfold aa6.J2b
    rw [cond_false,show (k !=z0)=true from bne_iff_ne.2 h0,cond_true]
    exact hs.trans (ac3 (by rw [if_neg h0];rfl))
 generalize hQ:(prF ps ps.length 0&&(raF rs rs.length 0&&(decide ((if k=0 then 0 else 1)+outF ps ps.length 0<=24)&&(!ow||(decide ((if k=0 then 0 else 1)+outF ps ps.length 0=0)&&decide (rs.length=0))))))=Q at J2
 have J1:∃s',aa6.J1 RZ onm ow k id tn n mm f1 (aa3 ns) f2 (tvs ks) f3 (lvs ls) f4 (cvs ch) pf (pavs ps) rf (tvs rs) (strip onm)=some (.ret [.bool ((af2 (strip onm)&&(rb&&(decide (ps.length<=24)&&decide (rs.length<=24))))&&Q)] s'):=by
  obtain ⟨s',hs⟩:=J2 (!(af2 (strip onm)&&(rb&&(decide (ps.length<=24)&&decide (rs.length<=24))))) (by
   intro h
   simp only [Bool.not_eq_false',Bool.and_eq_true,decide_eq_true_eq] at h
   exact h.2.2)
  refine ⟨s',?_⟩
  apply aa6.an7
  unfold aa6.J1b
  simp -implicitDefEqProofs only [vS,hnm,cP_B,aB_v,vB,hn,ck,cond_true,hpl,as2,ad8]
  rw [show decide ((ps.length:Int)>24)= !decide (ps.length<=24) by by_cases h:ps.length<=24<;>simp [h]<;>omega,show decide ((rs.length:Int)>24)= !decide (rs.length<=24) by by_cases h:rs.length<=24<;>simp [h]<;>omega]
  generalize af2 (strip onm)=a at hs ⊢
  generalize decide (ps.length<=24)=b at hs ⊢
  generalize decide (rs.length<=24)=c at hs ⊢
  rw [Bool.not_not] at hs
  cases a with
  | false=>rw [Bool.not_false,cond_true];rw [Bool.false_and,Bool.not_false] at hs;exact hs
  | true=>
   rw [Bool.not_true,cond_false]
   rw [Bool.true_and] at hs
   cases rb with
   | false=>rw [Bool.not_false,cond_true];rw [Bool.false_and,Bool.not_false] at hs;exact hs
   | true=>
    rw [Bool.not_true,cond_false]
    rw [Bool.true_and] at hs
    cases b with
    | false=>rw [Bool.not_false,cond_true];rw [Bool.false_and,Bool.not_false] at hs;exact hs
    | true=>rw [Bool.not_true,cond_false];rw [Bool.true_and] at hs;exact hs
 obtain ⟨s',h1⟩:=J1
 refine ⟨s',?_⟩
 show RZ.R au3 [.agg [.str onm,.bool ow,.int .i64 k,.str id,.str tn,.int .i64 n,.int .i64 mm,.list f1 1 (aa3 ns),.list f2 9 (tvs ks),.list f3 1 (lvs ls),.list f4 3 (cvs ch),.list pf 11 (pavs ps),.list rf 9 (tvs rs)]] []=_
 apply aa6.b_of
 unfold aa6.b
 rw [toList_empty]
 cases hs0:(onm.size==0) with
 | true=>
  rw [Bool.not_true,cond_false]
  rw [hst.1 hs0] at h1
  apply aa6.ad0
  unfold aa6.J0b
  rw [cond_false]
  rw [hst.1 hs0]
  exact h1
 | false=>
  obtain ⟨c,hc⟩:=bv1 (s:=onm) (i:=0) (by have:=beq_eq_false_iff_ne.1 hs0;omega)
  rw [Bool.not_false,cond_true,show z0=(0:Int) from rfl,byteK_0 hc]
  apply aa6.ad0
  unfold aa6.J0b
  by_cases h95:(c.toNat:Int)=95
  ·have hsz:=beq_eq_false_iff_ne.1 hs0
   rw [beq_iff_eq.2 h95,cond_true,show (decide (0<=z1)&&(decide (z1<=(onm.size:Int))&&decide ((onm.size:Int)<=(onm.size:Int))))=true by
    rw [show z1=(1:Int) from rfl,decide_eq_true (by omega),decide_eq_true (by omega),decide_eq_true (by omega)];rfl]
   simp only [ck,cond_true]
   rw [hst.2.2 c hc h95] at h1 ⊢
   exact h1
  ·rw [beq_eq_false_iff_ne.2 h95,cond_false]
   rw [hst.2.1 c hc h95] at h1 ⊢
   exact h1
end Go.Proofs.YtflhfchgdpbhcaaGreat.E
