/- It is proved what the evaluation of the reference's Play comes to, in plain words. No condition beyond the lemmas' own. -/
import Derived.Test.YtnpjififnhjbbaaDoorP3
set_option maxRecDepth 100000
namespace Go.Proofs.YtnpjififnhjbbaaDoor.E
open Go
inductive RQ where
 | stop (o:Int×By)
 | done (got:List (By×Int)) (dbt:List By) (r:List Int)
def an3 (k sil:Int):List Int->List (By×Nat)->List (By×Int)->List By->RQ
 | r,[],got,dbt=>.done got dbt r
 | [],(s,_)::_,_,_=>.stop (k,s)
 | a::r,(s,c)::qs,got,dbt=>
  if a≠sil then an3 k sil r qs (putG s a got) dbt
  else if c+1<20 then an3 k sil r (qs++[(s,c+1)]) got dbt
  else an3 k sil r qs got (bif hasS s dbt then dbt else dbt++[s])
theorem aG5 (lines:List By)(k sil:Int)(K:List (By×Int)->List By->Kq):∀(r:List Int) (q:List (By×Nat)) (got:List (By×Int)) (dbt:List By),az0 lines k sil K r q got dbt=match an3 k sil r q got dbt with | .stop o=>.stop o lines | .done g d r=>K g d r
 | [],[],got,dbt=>rfl
 | _::_,[],got,dbt=>rfl
 | [],(s,c)::_,_,_=>rfl
 | a::r,(s,c)::qs,got,dbt=>by
  unfold az0 an3
  by_cases h1:a≠sil
  ·rw [if_pos h1,if_pos h1];exact aG5 lines k sil K r qs _ dbt
  ·rw [if_neg h1,if_neg h1]
   by_cases h2:c+1<20
   ·rw [if_pos h2,if_pos h2];exact aG5 lines k sil K r _ got dbt
   ·rw [if_neg h2,if_neg h2];exact aG5 lines k sil K r qs got _
def ResA (k sil:Int)(names:List By)(s:List O)(P:PX)(q:List (By×Nat))(gl:List (By×Int))(run:R):Prop:=match an3 k sil P.ans q gl P.dbt with
 | .stop o=>∃s' w l,run=some (.ret [w] s')/\isL 1 (aa1 l) w/\l.length<=names.length/\ar0 s' P.num P.lines o
 | .done got dbt r=>∃s' w c' ords,run=some (.ret [w] s')/\isL 1 (aa1 (names.filter fun x=>selF k (getG x got))) w/\s'[0]? =some (.box (boxP c' {P with ords:=ords,ans:=r,dbt:=dbt,mix:=P.mix||names.any (fun x=>mixF k (getG x got)),haz:=P.haz||names.any (fun x=>hazF k (getG x got))}))/\CP c' {P with ords:=ords,ans:=r,dbt:=dbt,mix:=P.mix||names.any (fun x=>mixF k (getG x got)),haz:=P.haz||names.any (fun x=>hazF k (getG x got))}
section
variable {k sil:Int} {m4:Bool} {names:List By} {i7 i8:Nat}
theorem stop_L6 (hl:names.length<=1000){s:List O}{num:Int}{L:List By}{o:Int×By}{gl:List (By×Int)}(h:ar0 s num L o)(hg:∃kk,s[i8]? =some (.map (pes gl) kk)):∃s' w l,aa0.L6 RZ 0 0 k i8 false [] m4 (aa1 names) names.length z0 s=some (.ret [w] s')/\isL 1 (aa1 l) w/\l.length<=names.length/\ar0 s' num L o:=by
 obtain ⟨c,P,h1,h2,h3,h4,h5,h6,h7,h8,h9,h10⟩:=h
 obtain ⟨s',w,q1,q2,q3,_⟩:=all_L6 (k:=k) (m7:=m4) hl names.length 0 (by omega) s c P [] false h1 hg (fun h=>absurd rfl h) (by simp)
 exact ⟨s',w,_,q1,q2,by rw [List.nil_append,List.drop_zero];exact List.length_filter_le _ _,c,_,q3,h2,h3,h4,h5,h6,h7,h8,h9,h10⟩
theorem stop_L0 (hl:names.length<=1000){s:List O}{num:Int}{L:List By}{o:Int×By}{gl:List (By×Int)}{m9:Bool}{nx:List By}(h:ar0 s num L o)(hg:∃kk,s[i8]? =some (.map (pes gl) kk)):∃s' w l,aa0.L0 RZ 0 0 k m4 (aa1 names) sil i7 i8 m9 (aa1 nx) s=some (.ret [w] s')/\isL 1 (aa1 l) w/\l.length<=names.length/\ar0 s' num L o:=by
 obtain ⟨s',w,l,q1,q2⟩:=stop_L6 (k:=k) (m4:=m4) hl h hg
 refine ⟨s',w,l,?_,q2⟩
 have J1:aa0.J1 RZ 0 0 k m4 (aa1 names) sil i7 i8 m9 (aa1 nx) false s=some (.ret [w] s'):=by
  apply aa0.ak6
  unfold aa0.J1b
  rw [cond_false,ab9];exact q1
 obtain ⟨c,P,h1,h2,_⟩:=h
 apply aa0.ag4
 unfold aa0.L0b
 simp only [Nat.reduceAdd]
 cases hd:decide ((((aa1 nx).length:Nat):Int)>0) with
 | true=>rw [cond_true,aR0 h1,aB_v,h2];exact J1
 | false=>exact J1
theorem stop_L2 (hs:sil≠0)(hl:names.length<=1000){num:Int}{L:List By}{o:Int×By}{m9 m11:Bool}{nx cur:List By}(hc:cur.length<=1000):∀(j i:Nat),i+j=cur.length->∀(s:List O) (gl:List (By×Int)),ar0 s num L o->(∃kk,s[i8]? =some (.map (pes gl) kk))->∃s' w l,aa0.L2 RZ 0 0 k m4 (aa1 names) sil i7 i8 m9 (aa1 nx) m11 (aa1 cur) cur.length i s=some (.ret [w] s')/\isL 1 (aa1 l) w/\l.length<=names.length/\ar0 s' num L o
 | 0,i,h,s,gl,hp,hg=>by
  obtain ⟨s',w,l,q1,q2⟩:=stop_L0 (k:=k) (sil:=sil) (m4:=m4) (i7:=i7) (m9:=m9) (nx:=nx) hl hp hg
  refine ⟨s',w,l,?_,q2⟩
  apply aa0.bh7
  unfold aa0.L2b
  rw [show i=cur.length by omega,ag2,cond_false]
  exact q1
 | j+1,i,h,s,gl,hp,⟨kk,hg⟩=>by
  obtain ⟨x,hx⟩:=getL (l:=cur) (i:=i) (by omega)
  have h0:i8≠0:=by
   rintro rfl
   obtain ⟨c,P,h1,_⟩:=hp
   rw [h1] at hg;cases hg
  have hp2:ar0 (s.set i8 (.map (pes (putG x 0 gl)) (if (pes (putG x 0 gl)).length=(pes gl).length then kk else kk+1))) num L o:=hp.low (by rw [List.getElem?_set_ne h0])
  obtain ⟨s',w,l,q1,q2⟩:=stop_L2 hs hl (m9:=m9) (m11:=m11) (nx:=nx) hc j (i+1) (by omega) _ (putG x 0 gl) hp2 ⟨_,ad5 hg⟩
  refine ⟨s',w,l,?_,q2⟩
  have J3:aa0.J3 RZ 0 0 k m4 (aa1 names) sil i7 i8 m9 (aa1 nx) m11 (aa1 cur) cur.length i (s.set i8 (.map (pes (putG x 0 gl)) (if (pes (putG x 0 gl)).length=(pes gl).length then kk else kk+1)))=some (.ret [w] s'):=by
   apply aa0.aB4
   unfold aa0.J3b
   rw [w6_1 (by omega)];exact q1
  apply aa0.bh7
  unfold aa0.L2b
  rw [ah8 (by omega)]
  simp only [cond_true,aj3 hx,V.cells,aC_v,aS_v,aN_v]
  rw [cS_v (hp.ask k x),aI_v,show ((0:Int) !=sil)=true from bne_iff_ne.2 (fun e=>hs e.symm),cond_true,aK5 hg,bu9]
  exact J3
def quO (l:List By)(cl:List (By×Int)):List (By×Nat):=l.map fun x=>(x,(getG x cl).toNat)
theorem quO_put {x:By}{n:Int}{cl:List (By×Int)}:∀{l:List By},x∉l->quO l (putG x n cl)=quO l cl
 | [],_=>rfl
 | y::l,h=>by
  have h1:y≠x:=fun e=>h (by rw [e];exact List.mem_cons_self ..)
  have h2:x∉l:=fun e=>h (List.mem_cons_of_mem _ e)
  show (y,(getG y (putG x n cl)).toNat)::quO l (putG x n cl)=(y,(getG y cl).toNat)::quO l cl
  rw [aF3 n h1,quO_put h2]
structure AL (i7 i8:Nat)(s:List O)(c:PV)(P:PX)(cl gl:List (By×Int)):Prop where
 box:s[0]? =some (.box (boxP c P))
 cp:CP c P
 stp:P.stp=false
 over:P.over=false
 cm:∃kk,s[i7]? =some (.map (pes cl) kk)
 gm:∃kk,s[i8]? =some (.map (pes gl) kk)
 ne:i7≠i8
 cnt:∀x,0<=getG x cl/\getG x cl<=(P.ords.length:Int)
theorem AL.n7 {s:List O}{c:PV}{P:PX}{cl gl:List (By×Int)}(h:AL i7 i8 s c P cl gl):i7≠0:=by
 rintro rfl
 obtain ⟨kk,hk⟩:=h.cm
 rw [h.box] at hk;cases hk
theorem AL.n8 {s:List O}{c:PV}{P:PX}{cl gl:List (By×Int)}(h:AL i7 i8 s c P cl gl):i8≠0:=by
 rintro rfl
 obtain ⟨kk,hk⟩:=h.gm
 rw [h.box] at hk;cases hk
theorem AL.setB {s:List O}{c:PV}{P:PX}{cl gl:List (By×Int)}(h:AL i7 i8 s c P cl gl){c':PV}{P':PX}(hc:CP c' P')(h1:P'.stp=false)(h2:P'.over=false)(h3:P.ords.length<=P'.ords.length):AL i7 i8 (s.set 0 (.box (boxP c' P'))) c' P' cl gl:=
 ⟨ad5 h.box,hc,h1,h2,by obtain ⟨kk,hk⟩:=h.cm;exact ⟨kk,by rw [List.getElem?_set_ne (fun e=>h.n7 e.symm)];exact hk⟩,by obtain ⟨kk,hk⟩:=h.gm;exact ⟨kk,by rw [List.getElem?_set_ne (fun e=>h.n8 e.symm)];exact hk⟩,h.ne,fun x=>⟨(h.cnt x).1,Int.le_trans (h.cnt x).2 (by omega)⟩⟩
theorem AL.setG {s:List O}{c:PV}{P:PX}{cl gl:List (By×Int)}(h:AL i7 i8 s c P cl gl)(gl':List (By×Int))(kk:Nat):AL i7 i8 (s.set i8 (.map (pes gl') kk)) c P cl gl':=
 ⟨by rw [List.getElem?_set_ne h.n8];exact h.box,h.cp,h.stp,h.over,by obtain ⟨kk,hk⟩:=h.cm;exact ⟨kk,by rw [List.getElem?_set_ne (fun e=>h.ne e.symm)];exact hk⟩,by obtain ⟨k,hk⟩:=h.gm;exact ⟨kk,ad5 hk⟩,h.ne,h.cnt⟩
theorem AL.setC {s:List O}{c:PV}{P:PX}{cl gl:List (By×Int)}(h:AL i7 i8 s c P cl gl)(cl':List (By×Int))(kk:Nat)(hc:∀x,0<=getG x cl'/\getG x cl'<=(P.ords.length:Int)):AL i7 i8 (s.set i7 (.map (pes cl') kk)) c P cl' gl:=
 ⟨by rw [List.getElem?_set_ne h.n7];exact h.box,h.cp,h.stp,h.over,by obtain ⟨k,hk⟩:=h.cm;exact ⟨kk,ad5 hk⟩,by obtain ⟨kk,hk⟩:=h.gm;exact ⟨kk,by rw [List.getElem?_set_ne h.ne];exact hk⟩,h.ne,hc⟩
theorem ResA.imp {s s':List O}{P:PX}{q:List (By×Nat)}{gl:List (By×Int)}{x y:R}(h:ResA k sil names s P q gl x)(hxy:∀o,x=some o->y=some o):ResA k sil names s' P q gl y:=by
 unfold ResA at h ⊢
 cases hq:an3 k sil P.ans q gl P.dbt with
 | stop o=>
  rw [hq] at h
  obtain ⟨s',w,l,q1,q2⟩:=h
  exact ⟨s',w,l,hxy _ q1,q2⟩
 | done got dbt r=>
  rw [hq] at h
  obtain ⟨s',w,c',ords,q1,q2⟩:=h
  exact ⟨s',w,c',ords,hxy _ q1,q2⟩
theorem all_L0 (hl:names.length<=1000){m9:Bool}{nx:List By}{s:List O}{c:PV}{P:PX}{cl gl:List (By×Int)}(h:AL i7 i8 s c P cl gl)
  (hA:∀m9 m11,0<nx.length->ResA k sil names s P (quO nx cl) gl (aa0.L2 RZ 0 0 k m4 (aa1 names) sil i7 i8 m9 (aa1 []) m11 (aa1 nx) nx.length (0:Nat) s)):
  ResA k sil names s P (quO nx cl) gl (aa0.L0 RZ 0 0 k m4 (aa1 names) sil i7 i8 m9 (aa1 nx) s):=by
 have start:∀o,aa0.J1 RZ 0 0 k m4 (aa1 names) sil i7 i8 m9 (aa1 nx) (decide (0<nx.length)) s=some o->aa0.L0 RZ 0 0 k m4 (aa1 names) sil i7 i8 m9 (aa1 nx) s=some o:=by
  intro o ho
  apply aa0.ag4
  unfold aa0.L0b
  simp only [Nat.reduceAdd]
  by_cases h0:0<nx.length
  ·rw [show decide ((((aa1 nx).length:Nat):Int)>0)=true from by rw [ab9];exact decide_eq_true (by omega),cond_true,aR0 h.box,aB_v,h.stp]
   rw [decide_eq_true h0] at ho;exact ho
  ·rw [show decide ((((aa1 nx).length:Nat):Int)>0)=false from by rw [ab9];exact decide_eq_false (by omega),cond_false]
   rw [decide_eq_false h0] at ho;exact ho
 by_cases h0:0<nx.length
 ·have hr:=hA m9 m9 h0
  have J1:∀o,aa0.L2 RZ 0 0 k m4 (aa1 names) sil i7 i8 false (aa1 []) m9 (aa1 nx) nx.length (0:Nat) s=some o->aa0.J1 RZ 0 0 k m4 (aa1 names) sil i7 i8 m9 (aa1 nx) (decide (0<nx.length)) s=some o:=by
   intro o ho
   rw [decide_eq_true h0]
   apply aa0.ak6
   unfold aa0.J1b
   rw [cond_true,ab9];exact ho
  have hr:=hA false m9 h0
  unfold ResA at hr ⊢
  cases hq:an3 k sil P.ans (quO nx cl) gl P.dbt with
  | stop o=>
   rw [hq] at hr
   obtain ⟨s',w,l,q1,q2⟩:=hr
   exact ⟨s',w,l,start _ (J1 _ q1),q2⟩
  | done got dbt r=>
   rw [hq] at hr
   obtain ⟨s',w,c',ords,q1,q2⟩:=hr
   exact ⟨s',w,c',ords,start _ (J1 _ q1),q2⟩
 ·have hnx:nx=[]:=List.eq_nil_of_length_eq_zero (by omega)
  subst hnx
  obtain ⟨s',w,q1,q2,q3,_⟩:=all_L6 (k:=k) (m7:=m4) hl names.length 0 (by omega) s c P [] false h.box h.gm (fun h=>absurd rfl h) (by simp)
  rw [List.drop_zero] at q3 q2
  unfold ResA
  rw [show an3 k sil P.ans (quO [] cl) gl P.dbt=.done gl P.dbt P.ans from by cases P.ans<;>rfl]
  refine ⟨s',w,c,P.ords,start _ ?_,q2,q3,⟨h.cp.o,h.cp.l,h.cp.d,h.cp.a,h.cp.bo,h.cp.bd⟩⟩
  rw [decide_eq_false (by simp)]
  apply aa0.ak6
  unfold aa0.J1b
  rw [cond_false,ab9];exact q1
theorem all_end (hl:names.length<=1000){m9 m11:Bool}{nx cur:List By}{s:List O}{c:PV}{P:PX}{cl gl:List (By×Int)}(h:AL i7 i8 s c P cl gl)
  (hA:∀m9 m11,0<nx.length->ResA k sil names s P (quO nx cl) gl (aa0.L2 RZ 0 0 k m4 (aa1 names) sil i7 i8 m9 (aa1 []) m11 (aa1 nx) nx.length (0:Nat) s)):
  ResA k sil names s P (quO nx cl) gl (aa0.L2 RZ 0 0 k m4 (aa1 names) sil i7 i8 m9 (aa1 nx) m11 (aa1 cur) cur.length cur.length s):=
 (all_L0 (m9:=m9) hl h hA).imp fun o ho=>by
  apply aa0.bh7
  unfold aa0.L2b
  rw [ag2,cond_false]
  exact ho
end
end Go.Proofs.YtnpjififnhjbbaaDoor.E
set_option maxRecDepth 100000
namespace Go.Proofs.YtnpjififnhjbbaaDoor.E
open Go
section
variable {k sil:Int} {m4:Bool} {names:List By} {i7 i8:Nat}
def AtL2 (k sil:Int)(m4:Bool)(names:List By)(i7 i8:Nat)(ans:List Int):Prop:=∀(i:Nat) (cur nx:List By) (m9 m11:Bool) (s:List O) (c:PV) (P:PX) (cl gl:List (By×Int)),i<cur.length->cur.length<=1000->nx.length<=i->(cur.drop i++nx).Nodup->AL i7 i8 s c P cl gl->P.ans=ans ->
 ResA k sil names s P (quO (cur.drop i++nx) cl) gl (aa0.L2 RZ 0 0 k m4 (aa1 names) sil i7 i8 m9 (aa1 nx) m11 (aa1 cur) cur.length i s)
theorem bA9 (hl:names.length<=1000){ans:List Int}(hA:AtL2 k sil m4 names i7 i8 ans){i:Nat}{cur nx:List By}(m9 m11:Bool){s:List O}{c:PV}{P:PX}{cl gl:List (By×Int)}(hi:i<=cur.length)(hc:cur.length<=1000)(hn:nx.length<=i)(hnd:(cur.drop i++nx).Nodup)(h:AL i7 i8 s c P cl gl)(hp:P.ans=ans):
  ResA k sil names s P (quO (cur.drop i++nx) cl) gl (aa0.L2 RZ 0 0 k m4 (aa1 names) sil i7 i8 m9 (aa1 nx) m11 (aa1 cur) cur.length i s):=by
 by_cases he:i<cur.length
 ·exact hA i cur nx m9 m11 s c P cl gl he hc hn hnd h hp
 ·have hi2:i=cur.length:=by omega
  subst hi2
  rw [List.drop_length,List.nil_append] at hnd ⊢
  refine all_end hl h fun m9 m11 h0=>?_
  have:=hA 0 nx [] m9 m11 s c P cl gl h0 (by omega) (by simp) (by simpa using hnd) h hp
  rw [List.drop_zero,List.append_nil] at this
  exact this
theorem all_L2 (hs:sil≠0)(hl:names.length<=1000):∀ans,AtL2 k sil m4 names i7 i8 ans
 | [],i,cur,nx,m9,m11,s,c,P,cl,gl,hi,hc,hn,hnd,h,hp=>by
  obtain ⟨x,hx⟩:=getL hi
  obtain ⟨s1,a1,a2,a3,a4⟩:=aY8 h.box h.cp h.stp h.over hp k x
  obtain ⟨kk,hg⟩:=h.gm
  have hg1:s1[i8]? =some (.map (pes gl) kk):=by rw [a4 _ h.n8];exact hg
  have hp2:ar0 (s1.set i8 (.map (pes (putG x 0 gl)) (if (pes (putG x 0 gl)).length=(pes gl).length then kk else kk+1))) P.num P.lines (k,x):=a2.low (by rw [List.getElem?_set_ne h.n8])
  obtain ⟨s',w,l,q1,q2⟩:=stop_L2 (k:=k) (m4:=m4) (i7:=i7) (m9:=m9) (m11:=m11) (nx:=nx) hs hl hc (cur.length-(i+1)) (i+1) (by omega) _ (putG x 0 gl) hp2 ⟨_,ad5 hg1⟩
  unfold ResA
  rw [hp,am8 hx]
  refine ⟨s',w,l,?_,q2⟩
  have J3:aa0.J3 RZ 0 0 k m4 (aa1 names) sil i7 i8 m9 (aa1 nx) m11 (aa1 cur) cur.length i (s1.set i8 (.map (pes (putG x 0 gl)) (if (pes (putG x 0 gl)).length=(pes gl).length then kk else kk+1)))=some (.ret [w] s'):=by
   apply aa0.aB4
   unfold aa0.J3b
   rw [w6_1 (by omega)];exact q1
  apply aa0.bh7
  unfold aa0.L2b
  rw [ah8 hi]
  simp only [cond_true,aj3 hx,V.cells,aC_v,aS_v,aN_v]
  rw [cS_v a1,aI_v,show ((0:Int) !=sil)=true from bne_iff_ne.2 (fun e=>hs e.symm),cond_true,aK5 hg1,bu9]
  exact J3
 | a::r,i,cur,nx,m9,m11,s,c,P,cl,gl,hi,hc,hn,hnd,h,hp=>by
  have hA:=all_L2 hs hl r
  obtain ⟨x,hx⟩:=getL hi
  obtain ⟨c1,cp1,a1⟩:=aQ0 h.box h.cp h.stp hp k x
  have hbo:=h.cp.bo
  have h1:=h.setB cp1 h.stp h.over (by simp)
  generalize hP1:({P with ords:=P.ords++[(k,x)],ans:=r}:PX)=P1 at cp1 a1 h1
  generalize hs1:s.set 0 (.box (boxP c1 P1))=s1 at a1 h1
  have e1:P1.ans=r:=by rw [←hP1]
  have e2:P1.dbt=P.dbt:=by rw [←hP1]
  have e3:P1.ords.length=P.ords.length+1:=by rw [←hP1];simp
  have hq:quO (cur.drop i++nx) cl=(x,(getG x cl).toNat)::quO (cur.drop (i+1)++nx) cl:=by rw [am8 hx];rfl
  rw [am8 hx,List.cons_append,List.nodup_cons] at hnd
  have back:∀(P2:PX) (s2:List O) (q:List (By×Nat)) (g:List (By×Int)) (y:R),P2.num=P.num->P2.lines=P.lines->P2.mix=P.mix->P2.haz=P.haz->P2.com=P.com->P2.over=P.over->P2.unc=P.unc->P2.stp=P.stp->ResA k sil names s2 P2 q g y->(an3 k sil P2.ans q g P2.dbt=an3 k sil P.ans (quO (cur.drop i++nx) cl) gl P.dbt)->ResA k sil names s P (quO (cur.drop i++nx) cl) gl y:=by
   intro P2 s2 q g y f1 f2 f3 f4 f5 f6 f7 f8 hr he
   unfold ResA at hr ⊢
   rw [←he]
   cases hz:an3 k sil P2.ans q g P2.dbt with
   | stop o=>
    rw [hz] at hr
    rw [f1,f2] at hr;exact hr
   | done got dbt r=>
    rw [hz] at hr
    obtain ⟨s',w,c',ords,q1,q2,q3,q4⟩:=hr
    have e:({P2 with ords:=ords,ans:=r,dbt:=dbt,mix:=P2.mix||names.any (fun x=>mixF k (getG x got)),haz:=P2.haz||names.any (fun x=>hazF k (getG x got))}:PX)= {P with ords:=ords,ans:=r,dbt:=dbt,mix:=P.mix||names.any (fun x=>mixF k (getG x got)),haz:=P.haz||names.any (fun x=>hazF k (getG x got))}:=by
     rw [f1,f2,f3,f4,f5,f6,f7,f8]
    rw [e] at q3 q4
    exact ⟨s',w,c',ords,q1,q2,q3,q4⟩
  have start:∀o,(bif (a !=sil) then mapK s1 i8 fun e23 c24=>putK (vS x) (vI a) e23 fun e25=>aa0.J3 RZ 0 0 k m4 (aa1 names) sil i7 i8 m9 (aa1 nx) m11 (aa1 cur) cur.length i ((s1).set i8 (O.map e25 (if (e25).length=(e23).length then c24 else c24+1))) else mapK s1 i7 fun e26 _=>ar6 (vS x) e26 fun r28=>aI ((r28).getD (vI 0)) fun n29=>mapK s1 i7 fun e30 c31=>putK (vS x) (vI (w6 (n29+z1))) e30 fun e32=>mapK ((s1).set i7 (O.map e32 (if (e32).length=(e30).length then c31 else c31+1))) i7 fun e33 _=>ar6 (vS x) e33 fun r35=>aI ((r35).getD (vI 0)) fun n36=>bif (decide (n36<20)) then apK (aa1 nx) [(vS x)] 16 (aa0.J4 RZ 0 0 k m4 (aa1 names) sil i7 i8 ((m9||!([(vS x)]:List V).isEmpty)) ((aa1 nx++[(vS x)])) m11 (aa1 cur) cur.length i (((s1).set i7 (O.map e32 (if (e32).length=(e30).length then c31 else c31+1))))) else rd1 ((s1).set i7 (O.map e32 (if (e32).length=(e30).length then c31 else c31+1))) 0 5 fun v37=>aL 1 v37 fun m38 e39=>ck (ac0 [(vL m38 1 e39),(vS x)]) (cP (RZ.R az3 [(vL m38 1 e39),(vS x)] []) (fun v40=>aB v40 fun b41=>bif (!b41) then rdT ((s1).set i7 (O.map e32 (if (e32).length=(e30).length then c31 else c31+1))) 0 5 (fun v42=>aL 1 v42 fun m43 e44=>apK e44 [(vS x)] 16 (ck (!m43) (wrO ((s1).set i7 (O.map e32 (if (e32).length=(e30).length then c31 else c31+1))) 0 5 [((vL true 1 (e44++[(vS x)])),true)] fun s45=>aa0.J5 RZ 0 0 k m4 (aa1 names) sil i7 i8 m9 (aa1 nx) m11 (aa1 cur) cur.length i s45))) (fun v42 s46=>aL 1 v42 fun m47 e48=>apK e48 [(vS x)] 16 (wrO s46 0 5 [((vL (m47||!([(vS x)]:List V).isEmpty) 1 (e48++[(vS x)])),true)] fun s49=>aa0.J5 RZ 0 0 k m4 (aa1 names) sil i7 i8 m9 (aa1 nx) m11 (aa1 cur) cur.length i s49)) else aa0.J5 RZ 0 0 k m4 (aa1 names) sil i7 i8 m9 (aa1 nx) m11 (aa1 cur) cur.length i (((s1).set i7 (O.map e32 (if (e32).length=(e30).length then c31 else c31+1))))) (fun p50=>panK p50 ((s1).set i7 (O.map e32 (if (e32).length=(e30).length then c31 else c31+1))))))=some o->aa0.L2 RZ 0 0 k m4 (aa1 names) sil i7 i8 m9 (aa1 nx) m11 (aa1 cur) cur.length i s=some o:=by
   intro o ho
   apply aa0.bh7
   unfold aa0.L2b
   rw [ah8 hi]
   simp only [cond_true,aj3 hx,V.cells,aC_v,aS_v,aN_v]
   rw [cS_v a1,aI_v]
   exact ho
  have J3:∀(m9:Bool) (nx:List By) (s2:List O) (o:Out),aa0.L2 RZ 0 0 k m4 (aa1 names) sil i7 i8 m9 (aa1 nx) m11 (aa1 cur) cur.length ((i+1:Nat):Int) s2=some o->aa0.J3 RZ 0 0 k m4 (aa1 names) sil i7 i8 m9 (aa1 nx) m11 (aa1 cur) cur.length i s2=some o:=by
   intro m9 nx s2 o ho
   apply aa0.aB4
   unfold aa0.J3b
   rw [w6_1 (by omega)];exact ho
  have f0:∀l:List (By×Int),(aN2 x l).getD (vI 0)=vI (getG x l):=aW0 x
  by_cases ha:a≠sil
  ·obtain ⟨kk,hg⟩:=h1.gm
   have h2:=h1.setG (putG x a gl) (if (pes (putG x a gl)).length=(pes gl).length then kk else kk+1)
   have hr:=bA9 hl hA m9 m11 (show i+1<=cur.length by omega) hc (by omega) hnd.2 h2 e1
   refine ResA.imp (s:=s) (back P1 _ _ _ _ (by rw [←hP1]) (by rw [←hP1]) (by rw [←hP1]) (by rw [←hP1]) (by rw [←hP1]) (by rw [←hP1]) (by rw [←hP1]) (by rw [←hP1]) hr ?_) fun o ho=>start o ?_
   ·rw [e1,e2,hp,hq]
    rw [show an3 k sil (a::r) ((x,(getG x cl).toNat)::quO (cur.drop (i+1)++nx) cl) gl P.dbt=if a≠sil then an3 k sil r (quO (cur.drop (i+1)++nx) cl) (putG x a gl) P.dbt else if (getG x cl).toNat+1<20 then an3 k sil r (quO (cur.drop (i+1)++nx) cl++[(x,(getG x cl).toNat+1)]) gl P.dbt else an3 k sil r (quO (cur.drop (i+1)++nx) cl) gl (bif hasS x P.dbt then P.dbt else P.dbt++[x]) from rfl,if_pos ha]
   ·rw [bne_iff_ne.2 ha,cond_true,aK5 hg,bu9]
    exact J3 _ _ _ _ ho
  ·have hsil:a=sil:=Classical.byContradiction fun h=>ha h
   obtain ⟨kk,hcm⟩:=h1.cm
   have hcnt:=h.cnt x
   have hw:w6 (getG x cl+z1)=getG x cl+1:=bs5 (by show -9223372036854775808<=getG x cl+1/\getG x cl+1<=9223372036854775807;omega)
   have hcnt2:∀y,0<=getG y (putG x (getG x cl+1) cl)/\getG y (putG x (getG x cl+1) cl)<=(P1.ords.length:Int):=by
    intro y
    by_cases e:y=x
    ·rw [e,az8];omega
    ·rw [aF3 _ e];have:=h.cnt y;omega
   have h2:=h1.setC (putG x (getG x cl+1) cl) (if (pes (putG x (getG x cl+1) cl)).length=(pes cl).length then kk else kk+1) hcnt2
   generalize hs2:s1.set i7 (.map (pes (putG x (getG x cl+1) cl)) (if (pes (putG x (getG x cl+1) cl)).length=(pes cl).length then kk else kk+1))=s2 at h2
   have hm2:∀K:List (V×V)->Nat->R,mapK s2 i7 K=K (pes (putG x (getG x cl+1) cl)) (if (pes (putG x (getG x cl+1) cl)).length=(pes cl).length then kk else kk+1):=fun K=>by rw [←hs2];exact aK5 (ad5 hcm) K
   have hrest:=hnd.1
   have hquo:quO (cur.drop (i+1)++nx) (putG x (getG x cl+1) cl)=quO (cur.drop (i+1)++nx) cl:=quO_put hrest
   have start2:∀o,(bif (decide (getG x cl+1<20)) then aa0.J4 RZ 0 0 k m4 (aa1 names) sil i7 i8 (m9||!([(vS x)]:List V).isEmpty) (aa1 (nx++[x])) m11 (aa1 cur) cur.length i s2 else rd1 s2 0 5 fun v37=>aL 1 v37 fun m38 e39=>ck (ac0 [(vL m38 1 e39),(vS x)]) (cP (RZ.R az3 [(vL m38 1 e39),(vS x)] []) (fun v40=>aB v40 fun b41=>bif (!b41) then rdT s2 0 5 (fun v42=>aL 1 v42 fun m43 e44=>apK e44 [(vS x)] 16 (ck (!m43) (wrO s2 0 5 [((vL true 1 (e44++[(vS x)])),true)] fun s45=>aa0.J5 RZ 0 0 k m4 (aa1 names) sil i7 i8 m9 (aa1 nx) m11 (aa1 cur) cur.length i s45))) (fun v42 s46=>aL 1 v42 fun m47 e48=>apK e48 [(vS x)] 16 (wrO s46 0 5 [((vL (m47||!([(vS x)]:List V).isEmpty) 1 (e48++[(vS x)])),true)] fun s49=>aa0.J5 RZ 0 0 k m4 (aa1 names) sil i7 i8 m9 (aa1 nx) m11 (aa1 cur) cur.length i s49)) else aa0.J5 RZ 0 0 k m4 (aa1 names) sil i7 i8 m9 (aa1 nx) m11 (aa1 cur) cur.length i s2) (fun p50=>panK p50 s2)))=some o->aa0.L2 RZ 0 0 k m4 (aa1 names) sil i7 i8 m9 (aa1 nx) m11 (aa1 cur) cur.length i s=some o:=by
    intro o ho
    refine start o ?_
    rw [hsil,show (sil !=sil)=false from by simp,cond_false,aK5 hcm,by8,f0,aI_v,aK5 hcm,hw,bu9]
    simp only [hs2,hm2,by8,f0,az8,aI_v]
    by_cases h20:getG x cl+1<20
    ·rw [decide_eq_true h20,cond_true] at ho ⊢
     unfold apK
     rw [ck_t (by rw [ab9];simp only [List.length_cons,List.length_nil,Bool.and_eq_true,Nat.ble_eq];omega),ak9]
     exact ho
    ·rw [decide_eq_false h20,cond_false] at ho ⊢
     exact ho
   have hun:an3 k sil (a::r) ((x,(getG x cl).toNat)::quO (cur.drop (i+1)++nx) cl) gl P.dbt=if (getG x cl).toNat+1<20 then an3 k sil r (quO (cur.drop (i+1)++nx) cl++[(x,(getG x cl).toNat+1)]) gl P.dbt else an3 k sil r (quO (cur.drop (i+1)++nx) cl) gl (bif hasS x P.dbt then P.dbt else P.dbt++[x]):=by
    rw [show an3 k sil (a::r) ((x,(getG x cl).toNat)::quO (cur.drop (i+1)++nx) cl) gl P.dbt=if a≠sil then an3 k sil r (quO (cur.drop (i+1)++nx) cl) (putG x a gl) P.dbt else if (getG x cl).toNat+1<20 then an3 k sil r (quO (cur.drop (i+1)++nx) cl++[(x,(getG x cl).toNat+1)]) gl P.dbt else an3 k sil r (quO (cur.drop (i+1)++nx) cl) gl (bif hasS x P.dbt then P.dbt else P.dbt++[x]) from rfl,if_neg ha]
   have J4:∀(m9:Bool) (nx:List By) (s2:List O) (o:Out),aa0.L2 RZ 0 0 k m4 (aa1 names) sil i7 i8 m9 (aa1 nx) m11 (aa1 cur) cur.length ((i+1:Nat):Int) s2=some o->aa0.J4 RZ 0 0 k m4 (aa1 names) sil i7 i8 m9 (aa1 nx) m11 (aa1 cur) cur.length i s2=some o:=fun m9 nx s2 o ho=>aa0.aH9 _ _ _ _ _ _ _ _ _ _ _ _ _ _ _ (J3 m9 nx s2 o ho)
   have J5:∀(m9:Bool) (nx:List By) (s2:List O) (o:Out),aa0.L2 RZ 0 0 k m4 (aa1 names) sil i7 i8 m9 (aa1 nx) m11 (aa1 cur) cur.length ((i+1:Nat):Int) s2=some o->aa0.J5 RZ 0 0 k m4 (aa1 names) sil i7 i8 m9 (aa1 nx) m11 (aa1 cur) cur.length i s2=some o:=fun m9 nx s2 o ho=>aa0.aY9 _ _ _ _ _ _ _ _ _ _ _ _ _ _ _ (J4 m9 nx s2 o ho)
   by_cases h20:getG x cl+1<20
   ·have hnd2:(cur.drop (i+1)++(nx++[x])).Nodup:=by
     rw [←List.append_assoc]
     refine List.nodup_append.2 ⟨hnd.2,by simp,fun y hy z hz=>?_⟩
     rw [List.mem_singleton] at hz
     intro e;rw [hz] at e;rw [e] at hy;exact hrest hy
    have hr:=bA9 hl hA (m9||!([(vS x)]:List V).isEmpty) m11 (show i+1<=cur.length by omega) hc (by simp;omega) hnd2 h2 e1
    refine ResA.imp (s:=s) (back P1 _ _ _ _ (by rw [←hP1]) (by rw [←hP1]) (by rw [←hP1]) (by rw [←hP1]) (by rw [←hP1]) (by rw [←hP1]) (by rw [←hP1]) (by rw [←hP1]) hr ?_) fun o ho=>start2 o ?_
    ·rw [e1,e2,hp,hq,hun,if_pos (by omega)]
     congr 1
     rw [←List.append_assoc]
     show (cur.drop (i+1)++nx++[x]).map _=_
     rw [List.map_append]
     show quO (cur.drop (i+1)++nx) (putG x (getG x cl+1) cl)++[(x,(getG x (putG x (getG x cl+1) cl)).toNat)]=_
     rw [hquo,az8]
     congr 3
     omega
    ·rw [decide_eq_true h20,cond_true]
     exact J4 _ _ _ _ ho
   ·obtain ⟨n5,a5,e5⟩:=h2.cp.d.aL
    have hdl:P.dbt.length<=1000:=by have:=h.cp.bd;omega
    have hno:ac0 [vL n5 1 (aa1 P1.dbt),vS x]=true:=by simp [ac0,aj2,ag7]
    have run5:∀o,(bif (!(hasS x P1.dbt)) then rdT s2 0 5 (fun v42=>aL 1 v42 fun m43 e44=>apK e44 [(vS x)] 16 (ck (!m43) (wrO s2 0 5 [((vL true 1 (e44++[(vS x)])),true)] fun s45=>aa0.J5 RZ 0 0 k m4 (aa1 names) sil i7 i8 m9 (aa1 nx) m11 (aa1 cur) cur.length i s45))) (fun v42 s46=>aL 1 v42 fun m47 e48=>apK e48 [(vS x)] 16 (wrO s46 0 5 [((vL (m47||!([(vS x)]:List V).isEmpty) 1 (e48++[(vS x)])),true)] fun s49=>aa0.J5 RZ 0 0 k m4 (aa1 names) sil i7 i8 m9 (aa1 nx) m11 (aa1 cur) cur.length i s49)) else aa0.J5 RZ 0 0 k m4 (aa1 names) sil i7 i8 m9 (aa1 nx) m11 (aa1 cur) cur.length i s2)=some o->aa0.L2 RZ 0 0 k m4 (aa1 names) sil i7 i8 m9 (aa1 nx) m11 (aa1 cur) cur.length i s=some o:=by
     intro o ho
     refine start2 o ?_
     rw [decide_eq_false h20,cond_false,rdP5 h2.box,e5,ck_t hno,rhas_is (by rw [e2];omega),cP_B,aB_v]
     exact ho
    cases hh:hasS x P1.dbt with
    | true=>
     have hr:=bA9 hl hA m9 m11 (show i+1<=cur.length by omega) hc (by omega) hnd.2 h2 e1
     refine ResA.imp (s:=s) (back P1 _ _ _ _ (by rw [←hP1]) (by rw [←hP1]) (by rw [←hP1]) (by rw [←hP1]) (by rw [←hP1]) (by rw [←hP1]) (by rw [←hP1]) (by rw [←hP1]) hr ?_) fun o ho=>run5 o ?_
     ·rw [e1,hp,hq,hun,if_neg (by omega),hquo,←e2,hh];rfl
     ·rw [hh];exact J5 _ _ _ _ ho
    | false=>
     have cp2:CP {c1 with d:=.list (n5||!([vS x]:List V).isEmpty) 1 (aa1 (P1.dbt++[x]))} {P1 with dbt:=P1.dbt++[x]}:=⟨h2.cp.o,h2.cp.l,by rw [←ak9];exact aG8,h2.cp.a,h2.cp.bo,by show (P1.dbt++[x]).length<=P1.ords.length;have:=h.cp.bd;rw [e2,e3];simp;omega⟩
     have h3:=h2.setB cp2 h2.stp h2.over (Nat.le_refl _)
     have hr:=bA9 hl hA m9 m11 (show i+1<=cur.length by omega) hc (by omega) hnd.2 h3 e1
     refine ResA.imp (s:=s) (back {P1 with dbt:=P1.dbt++[x]} _ _ _ _ (by rw [←hP1]) (by rw [←hP1]) (by rw [←hP1]) (by rw [←hP1]) (by rw [←hP1]) (by rw [←hP1]) (by rw [←hP1]) (by rw [←hP1]) hr ?_) fun o ho=>run5 o ?_
     ·rw [hp,hq,hun,if_neg (by omega),hquo,←e2,hh]
      show an3 k sil P1.ans _ gl (P1.dbt++[x])=_
      rw [e1];rfl
     ·rw [hh,Bool.not_false,cond_true,rdTP5 h2.box,e5]
      unfold apK
      rw [ck_t (by rw [ab9,e2];simp only [List.length_cons,List.length_nil,Bool.and_eq_true,Nat.ble_eq];omega),wrTP5 h2.box,ak9]
      exact J5 _ _ _ _ ho
theorem all_is (hs:sil≠0)(hl:names.length<=1000)(hnd:names.Nodup){s:List O}{c:PV}{P:PX}(h:s[0]? =some (.box (boxP c P)))(hc:CP c P)(h1:P.stp=false)(h2:P.over=false):ResA k sil names s P (names.map fun x=>(x,0)) [] (RZ.R ad0 [vO 0 0,vI k,vL m4 1 (aa1 names),vI sil] s):=by
 have h0:=ad9 h
 have hAL:AL s.length (s++[O.map [] 0]).length ((s++[O.map [] 0])++[O.map [] 0]) c P [] []:=by
  refine ⟨?_,hc,h1,h2,⟨0,?_⟩,⟨0,aT1 _ _⟩,by simp,fun x=>⟨Int.le_refl _,by show (0:Int)<=_;omega⟩⟩
  ·rw [List.getElem?_append_left (by simp),List.getElem?_append_left h0];exact h
  ·rw [List.getElem?_append_left (by simp),aT1];rfl
 have hA:=all_L2 (k:=k) (sil:=sil) (m4:=m4) (names:=names) (i7:=s.length) (i8:=(s++[O.map [] 0]).length) hs hl P.ans
 have hr:=all_L0 (k:=k) (sil:=sil) (m4:=m4) (names:=names) (m9:=m4) hl hAL (nx:=names) fun m9 m11 h0=>by
  have:=hA 0 names [] m9 m11 _ c P [] [] h0 hl (by simp) (by simpa using hnd) hAL rfl
  rw [List.drop_zero,List.append_nil] at this
  exact this
 have hq:quO names []=names.map fun x=>(x,0):=rfl
 rw [hq] at hr
 refine ResA.imp hr fun o ho=>?_
 apply aa0.b_of
 unfold aa0.b
 exact ho
end
end Go.Proofs.YtnpjififnhjbbaaDoor.E
set_option maxRecDepth 100000
namespace Go.Proofs.YtnpjififnhjbbaaDoor.E
open Go
inductive RO where
 | stop (o:Int×By) (L:List By)
 | done (E:En) (L:List By) (r:List Int)
def av4 (L:List By)(k:Int)(names:List By)(E:En)(r:List Int):RO:=match an3 k 5 r (names.map fun s=>(s,0)) [] E.dbt with
 | .stop o=>.stop o L
 | .done got dbt r=>match an3 6 2 r ((outQ names got).map fun s=>(s,0)) [] dbt with
  | .stop o=>.stop o L
  | .done _ dbt r=>.done {E with mix:=E.mix||names.any (fun s=>getG s got==2||getG s got==3),haz:=E.haz||names.any (fun s=>getG s got==4),dbt} L r
theorem bn0 (L:List By)(k:Int)(names:List By)(E:En)(K:En->Kq)(r:List Int):aN9 L k names E K r=match av4 L k names E r with | .stop o L=>.stop o L | .done E _ r=>K E r:=by
 unfold aN9 av4
 rw [aG5]
 cases an3 k 5 r (names.map fun s=>(s,0)) [] E.dbt with
 | stop o=>rfl
 | done got dbt r=>
  simp only
  rw [aG5]
  cases an3 6 2 r ((outQ names got).map fun s=>(s,0)) [] dbt with
  | stop o=>rfl
  | done _ dbt r=>rfl
def oneR (s:By):List Int->RO
 | []=>.stop (5,s) []
 | a::r=>
  let E:En:={com:=decide (¬(a<=0∨a=2)),mix:=a==3,haz:=a==4||a==5}
  if 2<=a/\a<=4 then (match an3 6 2 r [(s,0)] [] [] with | .stop o=>.stop o [] | .done _ dbt r=>.done {E with dbt} [] r) else .done E [] r
def cmtR (num:Int)(yes:List By)(r:List Int):RO:=match av4 [cmtB num yes] 3 yes {com:=true} r with
 | .stop o L=>.stop o L
 | .done E _ r=>.done E (match E.dbt with | []=>[cmtB num yes,endB num] | _=>[cmtB num yes]) r
def prpR (num:Int):List By->List By->List Int->RO
 | [],[],r=>.done {com:=true} [] r
 | [],yes,r=>cmtR num yes r
 | s::_,_,[]=>.stop (2,s) []
 | s::names,yes,a::r=>
  if a=1 then prpR num names (yes++[s]) r
  else if a=2 then av4 [] 4 (yes++names) {} r
  else if a=4 then av4 [] 4 (yes++s::names) {} r
  else prpR num names yes r
def rstR (num:Int)(names:List By)(r:List Int):RO:=match names with | [s]=>oneR s r | l=>prpR num l [] r
def andQ (wat:List By):RO->Rs
 | .stop o L=>.stop o L
 | .done E L r=>aftQ L wat E r
theorem oneQ_eq (wat:List By)(s:By)(r:List Int):oneQ wat s r=andQ wat (oneR s r):=by
 cases r with
 | nil=>rfl
 | cons a r=>
  show (if 2<=a/\a<=4 then _ else _:Kq) r=_
  unfold oneR
  simp only
  by_cases h:2<=a/\a<=4
  ·rw [if_pos h,if_pos h,aG5]
   cases an3 6 2 r [(s,0)] [] [] with
   | stop o=>rfl
   | done _ dbt r=>rfl
  ·rw [if_neg h,if_neg h];rfl
theorem cmtQ_eq (num:Int)(wat yes:List By)(r:List Int):cmtQ num wat yes r=andQ wat (cmtR num yes r):=by
 unfold cmtQ cmtR
 rw [bn0]
 cases av4 [cmtB num yes] 3 yes {com:=true} r with
 | stop o L=>rfl
 | done E L r=>rfl
theorem bA5 {L:List By}{k:Int}{names:List By}{E E':En}{L':List By}{r r':List Int}(h:av4 L k names E r=.done E' L' r'):L'=L:=by
 unfold av4 at h
 cases h1:an3 k 5 r (names.map fun s=>(s,0)) [] E.dbt with
 | stop o=>rw [h1] at h;cases h
 | done got dbt r=>
  rw [h1] at h
  simp only at h
  cases h2:an3 6 2 r ((outQ names got).map fun s=>(s,0)) [] dbt with
  | stop o=>rw [h2] at h;cases h
  | done _ dbt r=>rw [h2] at h;injection h with _ h;exact h.symm
theorem be7 (num:Int)(wat:List By):∀(names yes:List By) (r:List Int),prpQ num wat names yes r=andQ wat (prpR num names yes r)
 | [],[],r=>by rw [show prpR num [] [] r=.done {com:=true} [] r from by cases r<;>rfl];rfl
 | [],y::ys,r=>by rw [show prpR num [] (y::ys) r=cmtR num (y::ys) r from by cases r<;>rfl,←cmtQ_eq];rfl
 | s::names,yes,[]=>rfl
 | s::names,yes,a::r=>by
  show (if a=1 then prpQ num wat names (yes++[s]) else if a=2 then aN9 [] 4 (yes++names) {} (aftQ [] wat) else if a=4 then aN9 [] 4 (yes++s::names) {} (aftQ [] wat) else prpQ num wat names yes:Kq) r=_
  rw [show prpR num (s::names) yes (a::r)=if a=1 then prpR num names (yes++[s]) r else if a=2 then av4 [] 4 (yes++names) {} r else if a=4 then av4 [] 4 (yes++s::names) {} r else prpR num names yes r from rfl]
  have hb:∀l,aN9 [] 4 l {} (aftQ [] wat) r=andQ wat (av4 [] 4 l {} r):=by
   intro l
   rw [bn0]
   cases h:av4 [] 4 l {} r with
   | stop o L=>rfl
   | done E L r=>have:=bA5 h;subst this;rfl
  by_cases h1:a=1
  ·rw [if_pos h1,if_pos h1];exact be7 num wat names _ r
  rw [if_neg h1,if_neg h1]
  by_cases h2:a=2
  ·rw [if_pos h2,if_pos h2];exact hb _
  rw [if_neg h2,if_neg h2]
  by_cases h4:a=4
  ·rw [if_pos h4,if_pos h4];exact hb _
  rw [if_neg h4,if_neg h4];exact be7 num wat names yes r
theorem rstQ_eq (num:Int)(wat names:List By)(r:List Int):rstQ num wat names r=andQ wat (rstR num names r):=by
 match names with
 | []=>exact be7 num wat [] [] r
 | [s]=>exact oneQ_eq wat s r
 | s::t::l=>exact be7 num wat (s::t::l) [] r
theorem bakQ_eq (wat names:List By)(r:List Int):bakQ wat names r=andQ wat (av4 [] 4 names {} r):=by
 unfold bakQ
 rw [bn0]
 cases h:av4 [] 4 names {} r with
 | stop o L=>rfl
 | done E L r=>have:=bA5 h;subst this;rfl
end Go.Proofs.YtnpjififnhjbbaaDoor.E
set_option maxRecDepth 100000
namespace Go.Proofs.YtnpjififnhjbbaaDoor.E
open Go
theorem line_is {num:Int}{l:List By}{nn:Bool}(hnum:0<=num/\num<100)(hn:nn=true)(hl:l.length<=1000)(hs:∀x∈l,x.size<=40):RZ.R aN0 [vI num,vL nn 1 (aa1 l)] []=some (.ret [.str (cmtB num l)] []):=by
 have hs1:=aR7 hnum
 have hs2:=by0 hs
 have hno:ac0 [vL nn 1 (aa1 l),vS (⟨#[32]⟩:By)]=true:=by simp [ac0,aj2,ag7]
 have hc1:∀x:R,ck (Nat.ble ((⟨#[99,111,109,109,105,116,32]⟩:By).size+(aG7 num).size) 9223372036854775807) x=x:=bg5 (by rw [show (⟨#[99,111,109,109,105,116,32]⟩:By).size=7 from rfl];omega)
 have hc2:∀x:R,ck (Nat.ble (((⟨#[99,111,109,109,105,116,32]⟩:By)++aG7 num).size+(⟨#[32]⟩:By).size) 9223372036854775807) x=x:=bg5 (by rw [aH7,show (⟨#[99,111,109,109,105,116,32]⟩:By).size=7 from rfl,show (⟨#[32]⟩:By).size=1 from rfl];omega)
 have hc3:∀x:R,ck (Nat.ble ((((⟨#[99,111,109,109,105,116,32]⟩:By)++aG7 num)++(⟨#[32]⟩:By)).size+(by1 l).size) 9223372036854775807) x=x:=bg5 (by rw [aH7,aH7,show (⟨#[99,111,109,109,105,116,32]⟩:By).size=7 from rfl,show (⟨#[32]⟩:By).size=1 from rfl];omega)
 apply aU7.b_of
 unfold aU7.b
 rw [bh8 hnum,cP_S,aS_v,hc1,hc2,ck_t hno,Join_is hn (by omega) hs,cP_S,aS_v,hc3]
 rfl
theorem all_stop {k sil:Int}{m4:Bool}{names:List By}(hl:names.length<=1000){s:List O}{num:Int}{L:List By}{o:Int×By}(h:ar0 s num L o):∃s' w l,RZ.R ad0 [vO 0 0,vI k,vL m4 1 (aa1 names),vI sil] s=some (.ret [w] s')/\isL 1 (aa1 l) w/\l.length<=names.length/\ar0 s' num L o:=by
 have h0:0<s.length:=by obtain ⟨c,P,h1,_⟩:=h;exact ad9 h1
 have hp2:ar0 ((s++[O.map [] 0])++[O.map [] 0]) num L o:=h.low (by rw [List.getElem?_append_left (by simp),List.getElem?_append_left h0])
 obtain ⟨s',w,l,q1,q2⟩:=stop_L0 (k:=k) (sil:=sil) (m4:=m4) (i7:=s.length) (i8:=(s++[O.map [] 0]).length) (m9:=m4) (nx:=names) (gl:=[]) hl hp2 ⟨0,aT1 _ _⟩
 refine ⟨s',w,l,?_,q2⟩
 apply aa0.b_of
 exact q1
def ResP (P:PX)(f:List O->R->Prop)(x:RO):Prop:=match x with
 | .stop o L=>∃s' y,f s' y/\ar0 s' P.num L o
 | .done E L r=>∃s' y c' ords,f s' y/\s'[0]? =some (.box (boxP c' {P with ords:=ords,lines:=L,com:=E.com,mix:=E.mix,haz:=E.haz,dbt:=E.dbt,unc:=P.unc,ans:=r}))/\CP c' {P with ords:=ords,lines:=L,com:=E.com,mix:=E.mix,haz:=E.haz,dbt:=E.dbt,unc:=P.unc,ans:=r}
theorem out_sel {k:Int}(hk:k≠6)(names:List By)(got:List (By×Int)):(names.filter fun x=>selF k (getG x got))=outQ names got:=by
 unfold outQ
 congr 1
 funext x
 unfold selF
 rw [decide_eq_decide]
 exact ⟨fun h=>h.2,fun h=>⟨hk,h⟩⟩
theorem any_mix {k:Int}(hk:k≠6)(names:List By)(got:List (By×Int)):names.any (fun x=>mixF k (getG x got))=names.any (fun s=>getG s got==2||getG s got==3):=by
 congr 1
 funext x
 unfold mixF
 rw [Bool.eq_iff_iff,decide_eq_true_iff,Bool.or_eq_true,beq_iff_eq,beq_iff_eq]
 exact ⟨fun h=>h.2,fun h=>⟨hk,h⟩⟩
theorem any_haz {k:Int}(hk:k≠6)(names:List By)(got:List (By×Int)):names.any (fun x=>hazF k (getG x got))=names.any (fun s=>getG s got==4):=by
 congr 1
 funext x
 unfold hazF
 rw [Bool.eq_iff_iff,decide_eq_true_iff,beq_iff_eq]
 exact ⟨fun h=>h.2,fun h=>⟨hk,h⟩⟩
theorem any_6 (names:List By)(got:List (By×Int)):names.any (fun x=>mixF 6 (getG x got))=false/\names.any (fun x=>hazF 6 (getG x got))=false:=by
 constructor<;>(rw [List.any_eq_false];intro x _;simp [mixF,hazF])
theorem by6 {m4:Bool}{names:List By}(hl:names.length<=1000)(hnd:names.Nodup){s:List O}{c:PV}{P:PX}(h:s[0]? =some (.box (boxP c P)))(hc:CP c P)(h1:P.stp=false)(h2:P.over=false):match an3 6 2 P.ans (names.map fun x=>(x,0)) [] P.dbt with
  | .stop o=>∃s' w l,RZ.R ad0 [vO 0 0,vI 6,vL m4 1 (aa1 names),vI 2] s=some (.ret [w] s')/\isL 1 (aa1 l) w/\ar0 s' P.num P.lines o
  | .done _ dbt r=>∃s' w l c' ords,RZ.R ad0 [vO 0 0,vI 6,vL m4 1 (aa1 names),vI 2] s=some (.ret [w] s')/\isL 1 (aa1 l) w/\s'[0]? =some (.box (boxP c' {P with ords:=ords,ans:=r,dbt:=dbt}))/\CP c' {P with ords:=ords,ans:=r,dbt:=dbt}:=by
 have hr:=all_is (k:=6) (sil:=2) (m4:=m4) (by decide) hl hnd h hc h1 h2
 unfold ResA at hr
 cases hq:an3 6 2 P.ans (names.map fun x=>(x,0)) [] P.dbt with
 | stop o=>
  rw [hq] at hr
  obtain ⟨s',w,l,q1,q2,_,q3⟩:=hr
  exact ⟨s',w,l,q1,q2,q3⟩
 | done got dbt r=>
  rw [hq] at hr
  obtain ⟨s',w,c',ords,q1,q2,q3,q4⟩:=hr
  have e:({P with ords:=ords,ans:=r,dbt:=dbt,mix:=P.mix||names.any (fun x=>mixF 6 (getG x got)),haz:=P.haz||names.any (fun x=>hazF 6 (getG x got))}:PX)= {P with ords:=ords,ans:=r,dbt:=dbt}:=by
   rw [(any_6 names got).1,(any_6 names got).2,Bool.or_false,Bool.or_false]
  rw [e] at q3 q4
  exact ⟨s',w,_,c',ords,q1,q2,q3,q4⟩
theorem outQ_nodup {names:List By}(h:names.Nodup)(got:List (By×Int)):(outQ names got).Nodup:=h.sublist List.filter_sublist
theorem outQ_len (names:List By)(got:List (By×Int)):(outQ names got).length<=names.length:=List.length_filter_le _ _
def aY6 (k:Int)(m4:Bool)(names:List By)(s:List O)(s':List O):Prop:=∃s1 w1 n1 l1 w2 l2,RZ.R ad0 [vO 0 0,vI k,vL m4 1 (aa1 names),vI 5] s=some (.ret [w1] s1)/\(∀K:Bool->List V->R,aL 1 w1 K=K n1 (aa1 l1))/\RZ.R ad0 [vO 0 0,vI 6,vL n1 1 (aa1 l1),vI 2] s1=some (.ret [w2] s')/\isL 1 (aa1 l2) w2
theorem bA4 {k:Int}(hk:k≠6){m4:Bool}{names:List By}(hl:names.length<=1000)(hnd:names.Nodup){s:List O}{c:PV}{P:PX}(h:s[0]? =some (.box (boxP c P)))(hc:CP c P)(h1:P.stp=false)(h2:P.over=false):match av4 P.lines k names {com:=P.com,mix:=P.mix,haz:=P.haz,dbt:=P.dbt} P.ans with
  | .stop o L=>∃s',aY6 k m4 names s s'/\ar0 s' P.num L o
  | .done E L r=>∃s' c' ords,aY6 k m4 names s s'/\s'[0]? =some (.box (boxP c' {P with ords:=ords,lines:=L,com:=E.com,mix:=E.mix,haz:=E.haz,dbt:=E.dbt,ans:=r}))/\CP c' {P with ords:=ords,lines:=L,com:=E.com,mix:=E.mix,haz:=E.haz,dbt:=E.dbt,ans:=r}:=by
 have hr:=all_is (k:=k) (sil:=5) (m4:=m4) (by decide) hl hnd h hc h1 h2
 unfold ResA at hr
 unfold av4
 simp only
 cases hq:an3 k 5 P.ans (names.map fun x=>(x,0)) [] P.dbt with
 | stop o=>
  rw [hq] at hr
  obtain ⟨s1,w1,l1,q1,q2,q3,q4⟩:=hr
  obtain ⟨n1,_,e1⟩:=q2.aL
  obtain ⟨s2,w2,l2,p1,p2,_,p3⟩:=all_stop (k:=6) (sil:=2) (m4:=n1) (names:=l1) (by omega) q4
  exact ⟨s2,⟨s1,w1,n1,l1,w2,l2,q1,e1,p1,p2⟩,p3⟩
 | done got dbt r=>
  rw [hq] at hr
  obtain ⟨s1,w1,c1,ords,q1,q2,q3,q4⟩:=hr
  rw [out_sel hk] at q2
  rw [any_mix hk,any_haz hk] at q3 q4
  obtain ⟨n1,_,e1⟩:=q2.aL
  have hf:=by6 (m4:=n1) (names:=outQ names got) (Nat.le_trans (outQ_len names got) hl) (outQ_nodup hnd got) q3 q4 h1 h2
  simp only at hf ⊢
  cases hq2:an3 6 2 r ((outQ names got).map fun x=>(x,0)) [] dbt with
  | stop o=>
   rw [hq2] at hf
   obtain ⟨s2,w2,l2,p1,p2,p3⟩:=hf
   exact ⟨s2,⟨s1,w1,n1,_,w2,l2,q1,e1,p1,p2⟩,p3⟩
  | done got2 dbt2 r2=>
   rw [hq2] at hf
   obtain ⟨s2,w2,l2,c2,ords2,p1,p2,p3,p4⟩:=hf
   exact ⟨s2,c2,ords2,⟨s1,w1,n1,_,w2,l2,q1,e1,p1,p2⟩,p3,p4⟩
end Go.Proofs.YtnpjififnhjbbaaDoor.E
set_option maxRecDepth 100000
namespace Go.Proofs.YtnpjififnhjbbaaDoor.E
open Go
def ResG (P:PX)(x:RO)(f:List O->Prop):Prop:=match x with
 | .stop o L=>∃s',f s'/\ar0 s' P.num L o
 | .done E L r=>∃s' c' ords com unc,f s'/\(unc=true∨com=E.com)/\s'[0]? =some (.box (boxP c' {P with ords:=ords,lines:=L,com:=com,mix:=E.mix,haz:=E.haz,dbt:=E.dbt,unc:=unc,ans:=r}))/\CP c' {P with ords:=ords,lines:=L,com:=com,mix:=E.mix,haz:=E.haz,dbt:=E.dbt,unc:=unc,ans:=r}
theorem ResG.imp {P:PX}{x:RO}{f g:List O->Prop}(h:ResG P x f)(hi:∀s,f s->g s):ResG P x g:=by
 cases x with
 | stop o L=>obtain ⟨s',q1,q2⟩:=h;exact ⟨s',hi _ q1,q2⟩
 | done E L r=>obtain ⟨s',c',ords,com,unc,q1,q2⟩:=h;exact ⟨s',c',ords,com,unc,hi _ q1,q2⟩
theorem ar0.rd10 {s:List O}{num:Int}{L:List By}{o:Int×By}(h:ar0 s num L o)(K:V->R):rd1 s 0 10 K=K (vB true):=by
 obtain ⟨c,P,h1,h2,_⟩:=h
 rw [aR0 h1,h2]
theorem com_J1 (s:List O):ad8.J1 RZ s=some (.ret [] s):=ad8.ak6 s rfl
theorem commit_is {nn:Bool}{yes:List By}(hn:nn=true)(hl:yes.length<=1000)(hnd:yes.Nodup)(hsz:∀x∈yes,x.size<=40){s:List O}{c:PV}{P:PX}(h:s[0]? =some (.box (boxP c P)))(hc:CP c P)(h1:P.stp=false)(h2:P.over=false)(hnum:0<=P.num/\P.num<100)(hcom:P.com=true)(hmix:P.mix=false)(hhaz:P.haz=false)(hdbt:P.dbt=[]):
  ResG P (cmtR P.num yes P.ans) fun s'=>RZ.R aj8 [vO 0 0,vL nn 1 (aa1 yes)] s=some (.ret [] s'):=by
 have hbo:=hc.bo
 let P1:PX:={P with lines:=[cmtB P.num yes]}
 let c1:PV:={c with l:=.list true 1 (aa1 [cmtB P.num yes])}
 have hb1:(s.set 0 (.box (boxP c1 P1)))[0]? =some (.box (boxP c1 P1)):=ad5 h
 have hc1:CP c1 P1:=⟨hc.o,aV8,hc.d,hc.a,hc.bo,hc.bd⟩
 have hb:=bA4 (k:=3) (by decide) (m4:=nn) hl hnd hb1 hc1 h1 h2
 have hno:ac0 [vI P.num,vL nn 1 (aa1 yes)]=true:=by simp [ac0,aj2,ag7]
 have hE:({com:=P1.com,mix:=P1.mix,haz:=P1.haz,dbt:=P1.dbt}:En)= {com:=true}:=by show ({com:=P.com,mix:=P.mix,haz:=P.haz,dbt:=P.dbt}:En)=_;rw [hcom,hmix,hhaz,hdbt]
 rw [hE] at hb
 have head:∀s' o,aY6 3 nn yes (s.set 0 (.box (boxP c1 P1))) s'->(rd1 s' 0 10 fun v18=>aB v18 fun b19=>bif (!b19) then rd1 s' 0 5 fun v20=>aL 1 v20 fun _ e22=>ad8.J0 RZ 0 0 ((((e22).length:Int)==z0)) s' else ad8.J0 RZ 0 0 false s')=some o->RZ.R aj8 [vO 0 0,vL nn 1 (aa1 yes)] s=some o:=by
  intro s' o ⟨s1,w1,n1,l1,w2,l2,q1,q2,q3,q4⟩ ho
  obtain ⟨n2,_,e2⟩:=q4.aL
  apply ad8.b_of
  unfold ad8.b
  simp only [Nat.reduceAdd]
  rw [rdP8 h,aI_v,ck_t hno,line_is hnum hn hl hsz,cP_S,aS_v]
  show wrO s 0 1 [(.list true 1 (aa1 [cmtB P.num yes]),true)] _=_
  rw [wrP1 h]
  show cS (RZ.R ad0 [vO 0 0,vI 3,vL nn 1 (aa1 yes),vI 5] (s.set 0 (.box (boxP c1 P1)))) _ _=_
  rw [cS_v q1,q2,cS_v q3,e2]
  exact ho
 have J0f:∀s,ad8.J0 RZ 0 0 false s=some (.ret [] s):=fun s=>ad8.am9 _ _ _ _ (com_J1 s)
 unfold cmtR
 cases hq:av4 P1.lines 3 yes {com:=true} P1.ans with
 | stop o L=>
  have hq2:av4 [cmtB P.num yes] 3 yes {com:=true} P.ans=.stop o L:=hq
  rw [hq] at hb
  obtain ⟨s',q1,q2⟩:=hb
  refine ⟨s',head s' _ q1 ?_,q2⟩
  rw [q2.rd10,aB_v]
  exact J0f s'
 | done E L r=>
  have hq2:av4 [cmtB P.num yes] 3 yes {com:=true} P.ans=.done E L r:=hq
  have hL:L=[cmtB P.num yes]:=bA5 hq2
  rw [hq] at hb
  obtain ⟨s',c',ords,q1,q2,q3⟩:=hb
  subst hL
  obtain ⟨nd,ad,ed⟩:=q3.d.aL
  have head2:∀o,ad8.J0 RZ 0 0 (E.dbt.isEmpty) s'=some o->RZ.R aj8 [vO 0 0,vL nn 1 (aa1 yes)] s=some o:=by
   intro o ho
   refine head s' o q1 ?_
   rw [aR0 q2,aB_v]
   show (bif (!P.stp) then _ else _)=_
   rw [h1,Bool.not_false,cond_true,rdP5 q2,ed]
   rw [show ((((aa1 E.dbt).length:Nat):Int)==z0)=E.dbt.isEmpty from by
    rw [ab9]
    cases E.dbt with
    | nil=>rfl
    | cons x l=>rw [beq_eq_false_iff_ne.2 (by show (((x::l).length:Nat):Int)≠0;simp only [List.length_cons];omega)];rfl]
   exact ho
  have hu:E.com=E.com:=rfl
  cases hd:E.dbt with
  | cons x l=>
   rw [hd] at head2
   refine ⟨s',c',ords,E.com,P.unc,head2 _ (J0f s'),.inr rfl,?_,?_⟩
   ·rw [hd] at q2;simp only [hd];exact q2
   ·rw [hd] at q3;simp only [hd];exact q3
  | nil=>
   rw [hd] at head2 q2 q3
   let P2:PX:={P with ords:=ords,lines:=[cmtB P.num yes],com:=E.com,mix:=E.mix,haz:=E.haz,dbt:=[],ans:=r}
   have q2':s'[0]? =some (.box (boxP c' P2)):=q2
   obtain ⟨nl,al,el⟩:=q3.l.aL
   have hs1:=aR7 hnum
   let c2:PV:={c' with l:=.list (nl||!([vS (endB P.num)]:List V).isEmpty) 1 (aa1 ([cmtB P.num yes]++[endB P.num]))}
   have hbf:(s'.set 0 (.box ((boxP c' P2).set 1 (c'.l,false))))[0]? =some (.box ((boxP c' P2).set 1 (c'.l,false))):=ad5 q2'
   have hr8:∀K:V->R,rd1 (s'.set 0 (.box ((boxP c' P2).set 1 (c'.l,false)))) 0 8 K=K (vI P.num):=fun K=>am4 (off:=8) (x:=(vI P.num,false)) hbf rfl K
   have hr8':∀K:V->R,rd1 s' 0 8 K=K (vI P.num):=fun K=>rdP8 q2' K
   have hc1:∀x:R,ck (Nat.ble ((⟨#[101,110,100,32]⟩:By).size+(aG7 P.num).size) 9223372036854775807) x=x:=bg5 (by rw [show (⟨#[101,110,100,32]⟩:By).size=4 from rfl];omega)
   have hcm:(⟨#[101,110,100,32]⟩:By)++aG7 P.num=endB P.num:=rfl
   have ap:∀K:R,apK (aa1 [cmtB P.num yes]) [vS (endB P.num)] 16 K=K:=fun K=>by
    unfold apK
    rw [ck_t (by rfl)]
   have wr:∀(K:List O->R),wrO (s'.set 0 (.box ((boxP c' P2).set 1 (c'.l,false)))) 0 1 [(vL (nl||!([vS (endB P.num)]:List V).isEmpty) 1 (aa1 [cmtB P.num yes]++[vS (endB P.num)]),true)] K=K (s'.set 0 (.box (boxP c2 P2))):=fun K=>by rw [wrTP1 q2',ak9]
   refine ⟨s'.set 0 (.box (boxP c2 {P2 with lines:=[cmtB P.num yes,endB P.num]})),c2,ords,E.com,P.unc,head2 _ ?_,.inr rfl,?_,?_⟩
   ·rw [show ([]:List By).isEmpty=true from rfl]
    apply ad8.am9
    unfold ad8.J0b
    simp only [Nat.reduceAdd,cond_true]
    simp only [rdTP1 q2',el,hr8,hr8',aI_v,bh8 hnum,cP_S,aS_v,hc1,hcm,ap,wr,as4,aw0]
    exact com_J1 _
   ·simp only [hd];exact ad5 q2'
   ·simp only [hd]
    exact ⟨q3.o,by show isL 1 (aa1 ([cmtB P.num yes]++[endB P.num])) _;exact .inl ⟨_,rfl,fun _=>by cases nl<;>rfl⟩,q3.d,q3.a,q3.bo,q3.bd⟩
end Go.Proofs.YtnpjififnhjbbaaDoor.E
set_option maxRecDepth 100000
namespace Go.Proofs.YtnpjififnhjbbaaDoor.E
open Go
section
variable {m8:Bool} {names:List By}
theorem rest_J8 (s:List O):aa3.J8 RZ s=some (.ret [] s):=aa3.J8_of s rfl
theorem rest_J9 (s:List O):aa3.J9 RZ s=some (.ret [] s):=aa3.J9_of s (rest_J8 s)
theorem rest_J10 (s:List O):aa3.J10 RZ s=some (.ret [] s):=aa3.bd7 s (rest_J9 s)
theorem no_L3 (hl:names.length<=1000){m3:Bool}{yes:List By}{s:List O}{o:Out}:∀(j i:Nat),i+j=names.length->∀(m5:Bool) (u:List By),u.length<=i+1->(∀m5',aa3.L3 RZ 0 0 m3 (aa1 yes) m5' (aa1 (u++names.drop i)) true m8 (aa1 names) names.length names.length s=some o)->aa3.L3 RZ 0 0 m3 (aa1 yes) m5 (aa1 u) true m8 (aa1 names) names.length i s=some o
 | 0,i,h,m5,u,hu,hk=>by
  have hi:i=names.length:=by omega
  subst hi
  have:=hk m5
  rw [List.drop_length,List.append_nil] at this
  exact this
 | j+1,i,h,m5,u,hu,hk=>by
  obtain ⟨x,hx⟩:=getL (l:=names) (i:=i) (by omega)
  rw [am8 hx] at hk
  have ih:=no_L3 hl (m3:=m3) (yes:=yes) (s:=s) (o:=o) j (i+1) (by omega) (m5||!([vS x]:List V).isEmpty) (u++[x]) (by simp;omega) (fun m5'=>by rw [List.append_assoc];exact hk m5')
  apply aa3.aP1
  unfold aa3.L3b
  rw [ah8 (by omega)]
  simp only [cond_true,aj3 hx,V.cells,aC_v,aS_v,aN_v]
  unfold apK
  rw [ck_t (by rw [ab9];simp only [List.length_cons,List.length_nil,Bool.and_eq_true,Nat.ble_eq];omega),ak9]
  apply aa3.aH9
  unfold aa3.J4b
  rw [w6_1 (by omega)];exact ih
theorem aQ8 {m3 m5 b7:Bool}{e4 e6:List V}{i:Nat}(hi:i<9223372036854775807){s:List O}{o:Out}(h:aa3.L3 RZ 0 0 m3 e4 m5 e6 b7 m8 (aa1 names) names.length ((i+1:Nat):Int) s=some o):aa3.J7 RZ 0 0 m3 e4 m5 e6 b7 m8 (aa1 names) names.length i s=some o/\aa3.J6 RZ 0 0 m3 e4 m5 e6 b7 m8 (aa1 names) names.length i s=some o/\aa3.J5 RZ 0 0 m3 e4 m5 e6 b7 m8 (aa1 names) names.length i s=some o:=by
 have h4:aa3.J4 RZ 0 0 m3 e4 m5 e6 b7 m8 (aa1 names) names.length i s=some o:=by
  apply aa3.aH9
  unfold aa3.J4b
  rw [w6_1 hi];exact h
 have h5:=aa3.aY9 _ _ _ _ _ _ _ _ _ _ _ _ h4
 have h6:=aa3.br7 _ _ _ _ _ _ _ _ _ _ _ _ h5
 exact ⟨aa3.bC0 _ _ _ _ _ _ _ _ _ _ _ _ h6,h6,h5⟩
theorem stop_L3 (hl:names.length<=1000){m3 m5:Bool}{e4 e6:List V}{s:List O}{num:Int}{L:List By}{o:Int×By}(hp:ar0 s num L o):∀(j i:Nat),i+j=names.length->aa3.L3 RZ 0 0 m3 e4 m5 e6 false m8 (aa1 names) names.length i s=some (.ret [] s)
 | 0,i,h=>by
  have hi:i=names.length:=by omega
  apply aa3.aP1
  unfold aa3.L3b
  simp only [Nat.reduceAdd]
  rw [hi,ag2,cond_false,hp.rd10,aB_v,cond_true]
  exact rest_J8 s
 | j+1,i,h=>by
  obtain ⟨x,hx⟩:=getL (l:=names) (i:=i) (by omega)
  have ih:=stop_L3 hl (m3:=m3) (m5:=m5) (e4:=e4) (e6:=e6) hp j (i+1) (by omega)
  apply aa3.aP1
  unfold aa3.L3b
  rw [ah8 (by omega)]
  simp only [cond_true,aj3 hx,V.cells,aC_v,aS_v,aN_v,cond_false]
  rw [cS_v (hp.ask 2 x),aI_v,show ((0:Int)==z1)=false from rfl,cond_false,show ((0:Int)==(2:Int))=false from rfl,cond_false,show ((0:Int)==(4:Int))=false from rfl,cond_false]
  exact (aQ8 (by omega) ih).1
theorem rest_no (hl:names.length<=1000){m3:Bool}{yes u:List By}(hu:(yes++u).length<=1000)(hnd:(yes++u).Nodup){s:List O}{c:PV}{P:PX}(h:s[0]? =some (.box (boxP c P)))(hc:CP c P)(h1:P.stp=false)(h2:P.over=false)(hl0:P.lines=[])(hcom:P.com=false)(hmix:P.mix=false)(hhaz:P.haz=false)(hdbt:P.dbt=[])(hne:yes≠[]->m3=true):ResG P (av4 [] 4 (yes++u) {} P.ans) fun s'=>∀m5,aa3.L3 RZ 0 0 m3 (aa1 yes) m5 (aa1 u) true m8 (aa1 names) names.length names.length s=some (.ret [] s'):=by
 have happ:aa1 yes++aa1 u=aa1 (yes++u):=by unfold aa1;rw [List.map_append]
 have hb:=bA4 (k:=4) (by decide) (m4:=m3||!(aa1 u).isEmpty) hu hnd h hc h1 h2
 have hE:({com:=P.com,mix:=P.mix,haz:=P.haz,dbt:=P.dbt}:En)= {}:=by rw [hcom,hmix,hhaz,hdbt]
 rw [hE,hl0] at hb
 have head:∀s',aY6 4 (m3||!(aa1 u).isEmpty) (yes++u) s s'->∀m5,aa3.L3 RZ 0 0 m3 (aa1 yes) m5 (aa1 u) true m8 (aa1 names) names.length names.length s=some (.ret [] s'):=by
  intro s' ⟨s1,w1,n1,l1,w2,l2,q1,q2,q3,q4⟩ m5
  obtain ⟨n2,_,e2⟩:=q4.aL
  apply aa3.aP1
  unfold aa3.L3b
  simp only [Nat.reduceAdd]
  rw [ag2,cond_false,aR0 h,aB_v,h1,cond_false,cond_true]
  unfold apK
  rw [ck_t (by rw [ab9,ab9];simp only [Bool.and_eq_true,Nat.ble_eq];rw [List.length_append] at hu;omega),happ]
  rw [cS_v q1,q2,cS_v q3,e2]
  exact rest_J9 s'
 unfold ResG
 cases hq:av4 [] 4 (yes++u) {} P.ans with
 | stop o L=>
  rw [hq] at hb
  obtain ⟨s',q1,q2⟩:=hb
  exact ⟨s',head s' q1,q2⟩
 | done E L r=>
  rw [hq] at hb
  obtain ⟨s',c',ords,q1,q2,q3⟩:=hb
  exact ⟨s',c',ords,E.com,P.unc,head s' q1,.inr rfl,q2,q3⟩
theorem ResG.back {P P1:PX}{x:RO}{f:List O->Prop}(h:ResG P1 x f)(h1:P1.num=P.num)(h2:P1.over=P.over)(h3:P1.stp=P.stp):ResG P x f:=by
 cases x with
 | stop o L=>obtain ⟨s',q1,q2⟩:=h;exact ⟨s',q1,by rw [←h1];exact q2⟩
 | done E L r=>
  obtain ⟨s',c',ords,com,unc,q1,q2,q3,q4⟩:=h
  have e:({P1 with ords:=ords,lines:=L,com:=com,mix:=E.mix,haz:=E.haz,dbt:=E.dbt,unc:=unc,ans:=r}:PX)= {P with ords:=ords,lines:=L,com:=com,mix:=E.mix,haz:=E.haz,dbt:=E.dbt,unc:=unc,ans:=r}:=by rw [h1,h2,h3]
  rw [e] at q3 q4
  exact ⟨s',c',ords,com,unc,q1,q2,q3,q4⟩
structure aZ1 (P:PX):Prop where
 stp:P.stp=false
 over:P.over=false
 lines:P.lines=[]
 com:P.com=false
 mix:P.mix=false
 haz:P.haz=false
 dbt:P.dbt=[]
 num:0<=P.num/\P.num<100
theorem bv0 (hl:names.length<=1000):∀(j i:Nat),i+j=names.length->∀(m3 m5:Bool) (yes:List By) (s:List O) (c:PV) (P:PX),s[0]? =some (.box (boxP c P))->CP c P->aZ1 P->(yes++names.drop i).Nodup->(yes++names.drop i).length<=1000->(∀x∈yes++names.drop i,x.size<=40)->(yes≠[]->m3=true) ->
  ResG P (prpR P.num (names.drop i) yes P.ans) fun s'=>aa3.L3 RZ 0 0 m3 (aa1 yes) m5 (aa1 []) false m8 (aa1 names) names.length i s=some (.ret [] s')
 | 0,i,h,m3,m5,yes,s,c,P,hb,hc,hf,hnd,hlen,hsz,hne=>by
  have hi:i=names.length:=by omega
  subst hi
  rw [List.drop_length] at hnd hlen hsz ⊢
  rw [List.append_nil] at hnd hlen hsz
  have start:∀o,(bif ((((aa1 yes).length:Nat):Int)==z0) then wrO s 0 2 [((vB true),false)] fun s36=>aa3.J10 RZ s36 else wrO s 0 2 [((vB true),false)] fun s37=>as9 (RZ.R aj8 [(vO 0 0),(vL m3 1 (aa1 yes))] s37) (fun v38 s39=>aT v38 fun c40=>aN c40 (aa3.J10 RZ s39)) panK)=some o->aa3.L3 RZ 0 0 m3 (aa1 yes) m5 (aa1 []) false m8 (aa1 names) names.length names.length s=some o:=by
   intro o ho
   apply aa3.aP1
   unfold aa3.L3b
   simp only [Nat.reduceAdd]
   rw [ag2,cond_false,aR0 hb,aB_v,hf.stp,cond_false,cond_false]
   exact ho
  have hb2:(s.set 0 (.box (boxP c {P with com:=true})))[0]? =some (.box (boxP c {P with com:=true})):=ad5 hb
  have hc2:CP c {P with com:=true}:=⟨hc.o,hc.l,hc.d,hc.a,hc.bo,hc.bd⟩
  cases yes with
  | nil=>
   rw [show prpR P.num [] [] P.ans=.done {com:=true} [] P.ans from by cases P.ans<;>rfl]
   refine ⟨s.set 0 (.box (boxP c {P with com:=true})),c,P.ords,true,P.unc,start _ ?_,.inr rfl,?_,?_⟩
   ·rw [show ((((aa1 []).length:Nat):Int)==z0)=true from rfl,cond_true,wrP2 hb]
    exact rest_J10 _
   ·have e:({P with ords:=P.ords,lines:=[],com:=true,mix:=false,haz:=false,dbt:=[],unc:=P.unc,ans:=P.ans}:PX)= {P with com:=true}:=by rw [hf.lines,hf.mix,hf.haz,hf.dbt]
    show (s.set 0 _)[0]? =some (.box (boxP c {P with ords:=P.ords,lines:=[],com:=true,mix:=false,haz:=false,dbt:=[],unc:=P.unc,ans:=P.ans}))
    rw [e];exact hb2
   ·have e:({P with ords:=P.ords,lines:=[],com:=true,mix:=false,haz:=false,dbt:=[],unc:=P.unc,ans:=P.ans}:PX)= {P with com:=true}:=by rw [hf.lines,hf.mix,hf.haz,hf.dbt]
    show CP c {P with ords:=P.ords,lines:=[],com:=true,mix:=false,haz:=false,dbt:=[],unc:=P.unc,ans:=P.ans}
    rw [e];exact hc2
  | cons y ys=>
   rw [show prpR P.num [] (y::ys) P.ans=cmtR P.num (y::ys) P.ans from by cases P.ans<;>rfl]
   have hr:=commit_is (nn:=m3) (yes:=y::ys) (hne (by simp)) hlen hnd hsz hb2 hc2 hf.stp hf.over hf.num rfl hf.mix hf.haz hf.dbt
   refine (hr.back rfl rfl rfl).imp fun s' q=>start _ ?_
   rw [show ((((aa1 (y::ys)).length:Nat):Int)==z0)=false from by rw [ab9,beq_eq_false_iff_ne];show (((y::ys).length:Nat):Int)≠0;simp only [List.length_cons];omega,cond_false,wrP2 hb,as3 q]
   exact rest_J10 _
 | j+1,i,h,m3,m5,yes,s,c,P,hb,hc,hf,hnd,hlen,hsz,hne=>by
  obtain ⟨x,hx⟩:=getL (l:=names) (i:=i) (by omega)
  rw [am8 hx] at hnd hlen hsz ⊢
  have start:∀(s1:List O) (a:Int) (o:Out),RZ.R ad1 [vO 0 0,vI 2,vS x] s=some (.ret [vI a] s1)->(bif (a==z1) then apK (aa1 yes) [(vS x)] 16 (aa3.J5 RZ 0 0 (m3||!([(vS x)]:List V).isEmpty) (aa1 yes++[(vS x)]) m5 (aa1 []) false m8 (aa1 names) names.length i s1) else bif (a==(2:Int)) then aa3.J6 RZ 0 0 m3 (aa1 yes) m5 (aa1 []) true m8 (aa1 names) names.length i s1 else bif (a==(4:Int)) then apK (aa1 []) [(vS x)] 16 (aa3.J7 RZ 0 0 m3 (aa1 yes) (m5||!([(vS x)]:List V).isEmpty) (aa1 []++[(vS x)]) true m8 (aa1 names) names.length i s1) else aa3.J7 RZ 0 0 m3 (aa1 yes) m5 (aa1 []) false m8 (aa1 names) names.length i s1)=some o->aa3.L3 RZ 0 0 m3 (aa1 yes) m5 (aa1 []) false m8 (aa1 names) names.length i s=some o:=by
   intro s1 a o ha ho
   apply aa3.aP1
   unfold aa3.L3b
   rw [ah8 (by omega)]
   simp only [cond_true,aj3 hx,V.cells,aC_v,aS_v,aN_v,cond_false]
   rw [cS_v ha,aI_v]
   exact ho
  cases hans:P.ans with
  | nil=>
   obtain ⟨s1,a1,a2,_⟩:=aY8 hb hc hf.stp hf.over hans 2 x
   show ResG P (.stop (2,x) []) _
   refine ⟨s1,start s1 0 _ a1 ?_,by rw [←hf.lines];exact a2⟩
   rw [show ((0:Int)==z1)=false from rfl,cond_false,show ((0:Int)==(2:Int))=false from rfl,cond_false,show ((0:Int)==(4:Int))=false from rfl,cond_false]
   exact (aQ8 (by omega) (stop_L3 hl a2 j (i+1) (by omega))).1
  | cons a r=>
   obtain ⟨c1,cp1,a1⟩:=aQ0 hb hc hf.stp hans 2 x
   generalize hP1:({P with ords:=P.ords++[((2:Int),x)],ans:=r}:PX)=P1 at cp1 a1
   have hb1:(s.set 0 (.box (boxP c1 P1)))[0]? =some (.box (boxP c1 P1)):=ad5 hb
   have hf1:aZ1 P1:=by rw [←hP1];exact ⟨hf.stp,hf.over,hf.lines,hf.com,hf.mix,hf.haz,hf.dbt,hf.num⟩
   have e1:P1.ans=r:=by rw [←hP1]
   have e2:P1.num=P.num:=by rw [←hP1]
   have back:∀{y:RO} {f:List O->Prop},ResG P1 y f->ResG P y f:=fun hr=>hr.back (by rw [←hP1]) (by rw [←hP1]) (by rw [←hP1])
   rw [show prpR P.num (x::names.drop (i+1)) yes (a::r)=if a=1 then prpR P.num (names.drop (i+1)) (yes++[x]) r else if a=2 then av4 [] 4 (yes++names.drop (i+1)) {} r else if a=4 then av4 [] 4 (yes++x::names.drop (i+1)) {} r else prpR P.num (names.drop (i+1)) yes r from rfl]
   have hperm:(yes++[x])++names.drop (i+1)=yes++x::names.drop (i+1):=by rw [List.append_assoc];rfl
   have hsub:(yes++names.drop (i+1)).Sublist (yes++x::names.drop (i+1)):=List.Sublist.append (List.Sublist.refl _) (List.sublist_cons_self ..)
   by_cases h1:a=1
   ·rw [if_pos h1]
    have hr:=bv0 hl j (i+1) (by omega) (m3||!([(vS x)]:List V).isEmpty) m5 (yes++[x]) _ c1 P1 hb1 cp1 hf1 (by rw [hperm];exact hnd) (by rw [hperm];exact hlen) (by rw [hperm];exact hsz) (fun _=>by cases m3<;>rfl)
    rw [e1,e2] at hr
    refine (back hr).imp fun s' q=>start _ a _ a1 ?_
    rw [h1,show ((1:Int)==z1)=true from rfl,cond_true]
    unfold apK
    rw [ck_t (by rw [ab9];rw [List.length_append] at hlen;simp only [List.length_cons,List.length_nil,Bool.and_eq_true,Nat.ble_eq];omega),ak9]
    exact (aQ8 (by omega) q).2.2
   rw [if_neg h1]
   by_cases h2:a=2
   ·rw [if_pos h2]
    have hr:=rest_no (m8:=m8) (m3:=m3) hl (yes:=yes) (u:=names.drop (i+1)) (Nat.le_trans hsub.length_le hlen) (hnd.sublist hsub) hb1 cp1 hf1.stp hf1.over hf1.lines hf1.com hf1.mix hf1.haz hf1.dbt hne
    rw [e1] at hr
    refine (back hr).imp fun s' q=>start _ a _ a1 ?_
    rw [beq_eq_false_iff_ne.2 (show a≠z1 from h1),cond_false,beq_iff_eq.2 h2,cond_true]
    exact (aQ8 (by omega) (no_L3 hl j (i+1) (by omega) m5 [] (by simp) fun m5'=>q m5')).2.1
   rw [if_neg h2]
   by_cases h4:a=4
   ·rw [if_pos h4]
    have hr:=rest_no (m8:=m8) (m3:=m3) hl (yes:=yes) (u:=x::names.drop (i+1)) hlen hnd hb1 cp1 hf1.stp hf1.over hf1.lines hf1.com hf1.mix hf1.haz hf1.dbt hne
    rw [e1] at hr
    refine (back hr).imp fun s' q=>start _ a _ a1 ?_
    rw [beq_eq_false_iff_ne.2 (show a≠z1 from h1),cond_false,beq_eq_false_iff_ne.2 h2,cond_false,beq_iff_eq.2 h4,cond_true]
    unfold apK
    rw [ck_t (by rfl)]
    exact (aQ8 (by omega) (no_L3 hl j (i+1) (by omega) (m5||!([vS x]:List V).isEmpty) [x] (by simp) fun m5'=>q m5')).1
   rw [if_neg h4]
   have hr:=bv0 hl j (i+1) (by omega) m3 m5 yes _ c1 P1 hb1 cp1 hf1 (hnd.sublist hsub) (Nat.le_trans hsub.length_le hlen) (fun y hy=>hsz y (hsub.subset hy)) hne
   rw [e1,e2] at hr
   refine (back hr).imp fun s' q=>start _ a _ a1 ?_
   rw [beq_eq_false_iff_ne.2 (show a≠z1 from h1),cond_false,beq_eq_false_iff_ne.2 h2,cond_false,beq_eq_false_iff_ne.2 h4,cond_false]
   exact (aQ8 (by omega) q).1
end
end Go.Proofs.YtnpjififnhjbbaaDoor.E
set_option maxRecDepth 100000
namespace Go.Proofs.YtnpjififnhjbbaaDoor.E
open Go
theorem ar0.put {s:List O}{num:Int}{L:List By}{o:Int×By}(h:ar0 s num L o)(off:Nat)(hoff:off=2∨off=3∨off=4∨off=7)(b:Bool):∃s',(∀K:List O->R,wrO s 0 off [(vB b,false)] K=K s')/\ar0 s' num L o:=by
 obtain ⟨c,P,h1,h2,h3,h4,h5,h6,h7,h8,h9,h10,h11⟩:=h
 rcases hoff with rfl | rfl | rfl | rfl
 ·exact ⟨_,fun K=>wrP2 h1 b K,c,{P with com:=b},ad5 h1,h2,h3,h4,h5,h6,h7,h8,h9,h10,h11⟩
 ·exact ⟨_,fun K=>wrP3 h1 b K,c,{P with mix:=b},ad5 h1,h2,h3,h4,h5,h6,h7,h8,h9,h10,h11⟩
 ·exact ⟨_,fun K=>wrP4 h1 b K,c,{P with haz:=b},ad5 h1,h2,h3,h4,h5,h6,h7,h8,h9,h10,h11⟩
 ·exact ⟨_,fun K=>wrP7 h1 b K,c,{P with unc:=b},ad5 h1,h2,h3,h4,h5,h6,h7,h8,h9,h10,h11⟩
theorem rest_stop {b m:Bool}{l:List V}{s:List O}{num:Int}{L:List By}{o:Int×By}(h:ar0 s num L o):RZ.R ae4 [vO 0 0,vB b,vL m 1 l] s=some (.ret [] s):=by
 apply aa3.b_of
 unfold aa3.b
 simp only [Nat.reduceAdd]
 rw [h.rd10,aB_v,cond_true]
 rfl
theorem one_is {m4:Bool}{x:By}{s:List O}{c:PV}{P:PX}(hb:s[0]? =some (.box (boxP c P)))(hc:CP c P)(hf:aZ1 P):
  ResG P (oneR x P.ans) fun s'=>RZ.R ae4 [vO 0 0,vB true,vL m4 1 (aa1 [x])] s=some (.ret [] s'):=by
 have J2:∀s,aa3.J2 RZ s=some (.ret [] s):=fun s=>aa3.ar1 s rfl
 have J1f:∀s,aa3.J1 RZ 0 0 m4 (aa1 [x]) false s=some (.ret [] s):=fun s=>aa3.ak6 _ _ _ _ _ _ (J2 s)
 have start:∀(s1:List O) (a:Int) (o:Out),RZ.R ad1 [vO 0 0,vI 5,vS x] s=some (.ret [vI a] s1)->(wrO s1 0 2 [((vB (a==z1)),false)] fun s27=>wrO s27 0 3 [((vB (a==(3:Int))),false)] fun s28=>bif (a==(4:Int)) then wrO s28 0 4 [((vB true),false)] fun s29=>aa3.J0 RZ 0 0 m4 (aa1 [x]) a s29 else wrO s28 0 4 [((vB (a==(5:Int))),false)] fun s30=>aa3.J0 RZ 0 0 m4 (aa1 [x]) a s30)=some o->RZ.R ae4 [vO 0 0,vB true,vL m4 1 (aa1 [x])] s=some o:=by
  intro s1 a o ha ho
  apply aa3.b_of
  unfold aa3.b
  simp only [Nat.reduceAdd]
  rw [aR0 hb,aB_v,hf.stp,cond_false,Bool.not_true,cond_false,show ((((aa1 [x]).length:Nat):Int)==z1)=true from rfl,cond_true]
  rw [show ∀K:V->R,idxK (aa1 [x]) z0 K=K (vS x) from fun K=>aK6 (i:=0) rfl K]
  simp only [V.cells,aC_v,aS_v,aN_v]
  rw [cS_v ha,aI_v]
  exact ho
 have fin:∀(s4:List O) (a:Int) (o:Out),aa3.J1 RZ 0 0 m4 (aa1 [x]) (decide (2<=a/\a<=4)) s4=some o->∀s3,(∀K:List O->R,wrO s3 0 7 [(vB (decide (a>=3)),false)] K=K s4)->aa3.J0 RZ 0 0 m4 (aa1 [x]) a s3=some o:=by
  intro s4 a o ho s3 hw
  apply aa3.am9
  unfold aa3.J0b
  simp only [Nat.reduceAdd]
  rw [hw]
  by_cases h2:2<=a
  ·rw [show decide (a>=2)=true from decide_eq_true h2,cond_true,aH1 (show a<=4↔(2<=a/\a<=4) by omega)];exact ho
  ·rw [show decide (a>=2)=false from decide_eq_false h2,cond_false]
   rw [show decide (2<=a/\a<=4)=false from decide_eq_false fun h=>h2 h.1] at ho;exact ho
 cases hans:P.ans with
 | nil=>
  obtain ⟨s1,a1,a2,_⟩:=aY8 hb hc hf.stp hf.over hans 5 x
  obtain ⟨s2,w2,p2⟩:=a2.put 2 (by omega) ((0:Int)==z1)
  obtain ⟨s3,w3,p3⟩:=p2.put 3 (by omega) ((0:Int)==(3:Int))
  obtain ⟨s4,w4,p4⟩:=p3.put 4 (by omega) ((0:Int)==(5:Int))
  obtain ⟨s5,w5,p5⟩:=p4.put 7 (by omega) (decide ((0:Int)>=3))
  show ResG P (.stop (5,x) []) _
  refine ⟨s5,start s1 0 _ a1 ?_,by rw [←hf.lines];exact p5⟩
  rw [w2,w3,show ((0:Int)==(4:Int))=false from rfl,cond_false,w4]
  refine fin s5 0 _ ?_ s4 w5
  exact J1f s5
 | cons a r=>
  obtain ⟨c1,cp1,a1⟩:=aQ0 hb hc hf.stp hans 5 x
  generalize hP1:({P with ords:=P.ords++[((5:Int),x)],ans:=r}:PX)=P1 at cp1 a1
  have hb1:(s.set 0 (.box (boxP c1 P1)))[0]? =some (.box (boxP c1 P1)):=ad5 hb
  have hf1:aZ1 P1:=by rw [←hP1];exact ⟨hf.stp,hf.over,hf.lines,hf.com,hf.mix,hf.haz,hf.dbt,hf.num⟩
  have e1:P1.ans=r:=by rw [←hP1]
  have back:∀{y:RO} {f:List O->Prop},ResG P1 y f->ResG P y f:=fun hr=>hr.back (by rw [←hP1]) (by rw [←hP1]) (by rw [←hP1])
  let P2:PX:={P1 with com:=a==1,mix:=a==3,haz:=a==4||a==5,unc:=decide (a>=3)}
  have hb2:(s.set 0 (.box (boxP c1 P2)))[0]? =some (.box (boxP c1 P2)):=ad5 hb
  have hc2:CP c1 P2:=⟨cp1.o,cp1.l,cp1.d,cp1.a,cp1.bo,cp1.bd⟩
  have run:∀o,aa3.J1 RZ 0 0 m4 (aa1 [x]) (decide (2<=a/\a<=4)) (s.set 0 (.box (boxP c1 P2)))=some o->RZ.R ae4 [vO 0 0,vB true,vL m4 1 (aa1 [x])] s=some o:=by
   intro o ho
   refine start _ a o a1 ?_
   have w2:∀K:List O->R,wrO (s.set 0 (.box (boxP c1 P1))) 0 2 [(vB (a==z1),false)] K=K (s.set 0 (.box (boxP c1 {P1 with com:=a==1}))):=fun K=>by rw [wrP2 hb1,ak0]
   have w3:∀K:List O->R,wrO (s.set 0 (.box (boxP c1 {P1 with com:=a==1}))) 0 3 [(vB (a==(3:Int)),false)] K=K (s.set 0 (.box (boxP c1 {P1 with com:=a==1,mix:=a==3}))):=fun K=>by rw [wrP3 (ad5 hb),ak0]
   have w4:∀(b:Bool) (K:List O->R),b=(a==4||a==5)->wrO (s.set 0 (.box (boxP c1 {P1 with com:=a==1,mix:=a==3}))) 0 4 [(vB b,false)] K=K (s.set 0 (.box (boxP c1 {P1 with com:=a==1,mix:=a==3,haz:=a==4||a==5}))):=fun b K e=>by rw [wrP4 (ad5 hb),ak0,e]
   have w7:∀K:List O->R,wrO (s.set 0 (.box (boxP c1 {P1 with com:=a==1,mix:=a==3,haz:=a==4||a==5}))) 0 7 [(vB (decide (a>=3)),false)] K=K (s.set 0 (.box (boxP c1 P2))):=fun K=>by rw [wrP7 (ad5 hb),ak0]
   rw [w2,w3]
   have hJ0:=fin _ a o ho _ w7
   by_cases h4:a=4
   ·rw [beq_iff_eq.2 h4,cond_true,w4 true _ (by rw [beq_iff_eq.2 h4];rfl)];exact hJ0
   ·rw [beq_eq_false_iff_ne.2 h4,cond_false,w4 _ _ (by rw [beq_eq_false_iff_ne.2 h4,Bool.false_or])];exact hJ0
  have hcom:decide (a>=3)=true∨(a==1)=decide (¬(a<=0∨a=2)):=by
   by_cases h3:a>=3
   ·exact .inl (decide_eq_true h3)
   ·refine .inr ?_
    rw [Bool.eq_iff_iff,beq_iff_eq,decide_eq_true_iff];omega
  unfold oneR
  simp only
  by_cases h24:2<=a/\a<=4
  ·rw [if_pos h24]
   rw [decide_eq_true h24] at run
   have hfg:=by6 (m4:=m4) (names:=[x]) (by simp) (by simp) hb2 hc2 hf1.stp hf1.over
   have e1':P2.ans=r:=e1
   have e2':P2.dbt=[]:=hf1.dbt
   rw [e1',e2'] at hfg
   have hJ1:∀s' w l,RZ.R ad0 [vO 0 0,vI 6,vL m4 1 (aa1 [x]),vI 2] (s.set 0 (.box (boxP c1 P2)))=some (.ret [w] s')->isL 1 (aa1 l) w->aa3.J1 RZ 0 0 m4 (aa1 [x]) true (s.set 0 (.box (boxP c1 P2)))=some (.ret [] s'):=by
    intro s' w l h1 h2
    obtain ⟨n2,_,e2⟩:=h2.aL
    apply aa3.ak6
    unfold aa3.J1b
    rw [cond_true,cS_v h1,e2]
    exact J2 s'
   have hm:([x].map fun x=>(x,0):List (By×Nat))=[(x,0)]:=rfl
   rw [hm] at hfg
   cases hq:an3 6 2 r [(x,0)] [] [] with
   | stop o=>
    rw [hq] at hfg
    obtain ⟨s',w,l,q1,q2,q3⟩:=hfg
    refine ⟨s',run _ (hJ1 s' w l q1 q2),?_⟩
    have q3:ar0 s' P1.num P1.lines o:=q3
    rw [hf1.lines,show P1.num=P.num from by rw [←hP1]] at q3
    exact q3
   | done g dbt r2=>
    rw [hq] at hfg
    obtain ⟨s',w,l,c',ords,q1,q2,q3,q4⟩:=hfg
    refine back ?_
    refine ⟨s',c',ords,a==1,decide (a>=3),run _ (hJ1 s' w l q1 q2),hcom,?_,?_⟩
    ·rw [q3];simp only [P2,hf1.lines]
    ·have e:({P2 with ords:=ords,ans:=r2,dbt:=dbt}:PX)= {P1 with ords:=ords,lines:=[],com:=a==1,mix:=a==3,haz:=a==4||a==5,dbt:=dbt,unc:=decide (a>=3),ans:=r2}:=by simp only [P2,hf1.lines]
     rw [e] at q4;exact q4
  ·rw [if_neg h24]
   rw [decide_eq_false h24] at run
   have e:P2= {P1 with ords:=P1.ords,lines:=[],com:=a==1,mix:=a==3,haz:=a==4||a==5,dbt:=[],unc:=decide (a>=3),ans:=r}:=by
    show ({P1 with com:=a==1,mix:=a==3,haz:=a==4||a==5,unc:=decide (a>=3)}:PX)=_
    rw [hf1.lines,hf1.dbt,e1]
   refine back ?_
   refine ⟨_,c1,P1.ords,a==1,decide (a>=3),run _ (J1f _),hcom,?_,?_⟩
   ·rw [hb2,e]
   ·rw [e] at hc2;exact hc2
theorem rest_is {commits m4:Bool}{names:List By}(hl:names.length<=1000)(hnd:names.Nodup)(hsz:∀x∈names,x.size<=40){s:List O}{c:PV}{P:PX}(hb:s[0]? =some (.box (boxP c P)))(hc:CP c P)(hf:aZ1 P):
  ResG P (if commits=true then rstR P.num names P.ans else av4 [] 4 names {} P.ans) fun s'=>RZ.R ae4 [vO 0 0,vB commits,vL m4 1 (aa1 names)] s=some (.ret [] s'):=by
 cases commits with
 | false=>
  rw [if_neg (by simp)]
  have hbo:=bA4 (k:=4) (by decide) (m4:=m4) hl hnd hb hc hf.stp hf.over
  have hE:({com:=P.com,mix:=P.mix,haz:=P.haz,dbt:=P.dbt}:En)= {}:=by rw [hf.com,hf.mix,hf.haz,hf.dbt]
  rw [hE,hf.lines] at hbo
  have head:∀s',aY6 4 m4 names s s'->RZ.R ae4 [vO 0 0,vB false,vL m4 1 (aa1 names)] s=some (.ret [] s'):=by
   intro s' ⟨s1,w1,n1,l1,w2,l2,q1,q2,q3,q4⟩
   obtain ⟨n2,_,e2⟩:=q4.aL
   apply aa3.b_of
   unfold aa3.b
   simp only [Nat.reduceAdd]
   rw [aR0 hb,aB_v,hf.stp,cond_false,Bool.not_false,cond_true,cS_v q1,q2,cS_v q3,e2]
   rfl
  unfold ResG
  cases hq:av4 [] 4 names {} P.ans with
  | stop o L=>
   rw [hq] at hbo
   obtain ⟨s',q1,q2⟩:=hbo
   exact ⟨s',head s' q1,q2⟩
  | done E L r=>
   rw [hq] at hbo
   obtain ⟨s',c',ords,q1,q2,q3⟩:=hbo
   exact ⟨s',c',ords,E.com,P.unc,head s' q1,.inr rfl,q2,q3⟩
 | true=>
  rw [if_pos rfl]
  have many:names.length≠1->∀s',aa3.L3 RZ 0 0 false (aa1 []) false (aa1 []) false m4 (aa1 names) names.length (0:Nat) s=some (.ret [] s')->RZ.R ae4 [vO 0 0,vB true,vL m4 1 (aa1 names)] s=some (.ret [] s'):=by
   intro hn s' ho
   apply aa3.b_of
   unfold aa3.b
   simp only [Nat.reduceAdd]
   rw [aR0 hb,aB_v,hf.stp,cond_false,Bool.not_true,cond_false,show ((((aa1 names).length:Nat):Int)==z1)=false from by rw [ab9,beq_eq_false_iff_ne];show ((names.length:Nat):Int)≠1;omega,cond_false,ab9]
   exact ho
  have hp:=bv0 (m8:=m4) hl names.length 0 (by omega) false false [] s c P hb hc hf (by simpa using hnd) (by simpa using hl) (by simpa using hsz) (fun h=>absurd rfl h)
  rw [List.drop_zero] at hp
  match names,hl,hnd,hsz,many,hp with
  | [],_,_,_,many,hp=>exact hp.imp fun s' q=>many (by simp) s' q
  | [x],_,_,_,_,_=>exact one_is hb hc hf
  | x::y::l,_,_,_,many,hp=>exact hp.imp fun s' q=>many (by simp) s' q
end Go.Proofs.YtnpjififnhjbbaaDoor.E
set_option maxRecDepth 100000
namespace Go.Proofs.YtnpjififnhjbbaaDoor.E
open Go
theorem aV0 (num:Int):∀l,ac0 (ordV num l)=true
 | []=>rfl
 | _::l=>aV0 num l
theorem ordV_len (num:Int)(l:List (Int×By)):(ordV num l).length=l.length:=List.length_map _
def ResL (num:Int)(x:Rs)(run:R):Prop:=∃s' mo eo vl com mix haz vd over unc,run=some (.ret [vA [vL mo 3 eo,vl,vB com,vB mix,vB haz,vd,vB over,vB unc]] s')/\(ac0 eo=true/\eo.length<=1002)/\match x with
 | .stop o L=>over=false/\isL 1 (aa1 L) vl/\(∃pre:List V,eo=pre++[vA [vI num,vI o.1,vS o.2]]/\pre.length<=1001)/\∃d,isL 1 (aa1 d) vd
 | .over com' mix' haz' dbt L=>over=true/\isL 1 (aa1 L) vl/\(unc=true∨com=com')/\mix=mix'/\haz=haz'/\isL 1 (aa1 dbt) vd
theorem ResL.imp {num:Int}{x:Rs}{y z:R}(h:ResL num x y)(hi:∀o,y=some o->z=some o):ResL num x z:=by
 obtain ⟨s',mo,eo,vl,com,mix,haz,vd,over,unc,q1,q2⟩:=h
 exact ⟨s',mo,eo,vl,com,mix,haz,vd,over,unc,hi _ q1,q2⟩
theorem play_out {s:List O}{c:PV}{P:PX}{e5 e6 e7:List V}{v3:V}{n:Nat}(h:s[0]? =some (.box (boxP c P)))(ho:isL 3 (ordV P.num P.ords) c.o)(hl:isL 1 (aa1 P.lines) c.l)(hd:isL 1 (aa1 P.dbt) c.d):∃mo s',ab4.L3 RZ v3 n n e5 e6 e7 s=some (.ret [vA [vL mo 3 (ordV P.num P.ords),c.l,vB P.com,vB P.mix,vB P.haz,c.d,vB (!P.stp),vB P.unc]] s'):=by
 obtain ⟨mo,_,eo⟩:=ho.aL
 have hgl:=hl.good
 have hgd:=hd.good
 have h2:(s.set 0 (.box (boxP c {P with over:=!P.stp})))[0]? =some (.box (boxP c {P with over:=!P.stp})):=ad5 h
 have hr:∀K:List V->R,rdN (s.set 0 (.box (boxP c {P with over:=!P.stp}))) 0 0 8 K=K [c.o,c.l,vB P.com,vB P.mix,vB P.haz,c.d,vB (!P.stp),vB P.unc]:=fun K=>by
  unfold rdN
  rw [h2]
  rfl
 have hgo:=ho.good
 have hg1:ac5 [c.o,c.l,vB P.com,vB P.mix,vB P.haz,c.d,vB (!P.stp),vB P.unc]=true:=by simp only [ac5,hgo,hgl,hgd];rfl
 have hg2:ac5 [vL mo 3 (ordV P.num P.ords),c.l,vB P.com,vB P.mix,vB P.haz,c.d,vB (!P.stp),vB P.unc]=true:=by simp only [ac5,hgl,hgd];rfl
 refine ⟨mo,s.set 0 (.box (boxP c {P with over:=!P.stp})),ab4.aP1 _ _ _ _ _ _ _ ?_⟩
 unfold ab4.L3b
 rw [ag2,cond_false,aR0 h,aB_v,wrP6 h,hr]
 unfold ay6
 rw [hg1,cond_true]
 simp only [aA_v,aC_v,eo,aB_v,aN_v,hg2]
 rfl
theorem ordV_last (num:Int)(pre:List (Int×By))(o:Int×By):ordV num (pre++[o])=ordV num pre++[vA [vI num,vI o.1,vS o.2]]:=(ordV_app num pre o).symm
section
variable {wat:List By} {v3:V} (hv:isL 1 (aa1 wat) v3) (hw:wat.length<=1000) {e5 e6 e7:List V}
theorem aM3 {wat:List By}{v3:V}(hv:isL 1 (aa1 wat) v3)(hw:wat.length<=1000){e5:List V}{e6:List V}{e7:List V}{num:Int}{L:List By}{o:Int×By}:∀(j i:Nat),i+j=wat.length->∀s,ar0 s num L o->ResL num (.stop o L) (ab4.L3 RZ v3 wat.length i e5 e6 e7 s)
 | 0,i,h,s,hp=>by
  have hi:i=wat.length:=by omega
  subst hi
  obtain ⟨c,P,h1,h2,h3,h4,h5,⟨pre,h6⟩,h7,h8,h9,h10,h11⟩:=hp
  obtain ⟨mo,s',q⟩:=play_out (v3:=v3) (n:=wat.length) (e5:=e5) (e6:=e6) (e7:=e7) h1 (by rw [h5];exact h7) (by rw [h4];exact h8) h9
  refine ⟨s',mo,_,_,_,_,_,_,_,_,q,⟨aV0 _ _,by rw [ordV_len];omega⟩,by rw [h2];rfl,h8,⟨ordV num pre,?_,?_⟩,P.dbt,h9⟩
  ·rw [h6,h5,ordV_last]
  ·rw [show (ordV num pre).length=pre.length from List.length_map _]
   rw [h6,List.length_append] at h10;omega
 | j+1,i,h,s,hp=>by
  obtain ⟨x,hx⟩:=getL (l:=wat) (i:=i) (by omega)
  obtain ⟨p,g1,g2,g3⟩:=(SLof (s:=s) hv).ix bp3 hx
  refine (aM3 (wat:=wat) (v3:=v3) (e5:=e5) (e6:=e6) (e7:=e7) hv hw j (i+1) (by omega) s hp).imp fun o ho=>?_
  apply ab4.aP1
  unfold ab4.L3b
  rw [ah8 (by omega)]
  simp only [cond_true,g1,Option.bind_some,ck_t g2,g3,aS_v]
  rw [cS_v (hp.ask 7 x),aI_v,w6_1 (by omega)]
  exact ho
theorem after_is {wat:List By}{v3:V}(hv:isL 1 (aa1 wat) v3)(hw:wat.length<=1000){e5:List V}{e6:List V}{e7:List V}:∀(j i:Nat),i+j=wat.length->∀(s:List O) (c:PV) (P:PX) (E:En),s[0]? =some (.box (boxP c P))->CP c P->P.stp=false->P.over=false->(P.unc=true∨P.com=E.com)->P.mix=E.mix->P.haz=E.haz->P.dbt=E.dbt->ResL P.num (aftQ P.lines (wat.drop i) E P.ans) (ab4.L3 RZ v3 wat.length i e5 e6 e7 s)
 | 0,i,h,s,c,P,E,hb,hc,h1,h2,h3,h4,h5,h6=>by
  have hi:i=wat.length:=by omega
  subst hi
  rw [List.drop_length]
  obtain ⟨mo,s',q⟩:=play_out (v3:=v3) (n:=wat.length) (e5:=e5) (e6:=e6) (e7:=e7) hb hc.o hc.l hc.d
  exact ⟨s',mo,_,_,_,_,_,_,_,_,q,⟨aV0 _ _,by rw [ordV_len];have:=hc.bo;omega⟩,by rw [h1];rfl,hc.l,h3,h4,h5,by rw [←h6];exact hc.d⟩
 | j+1,i,h,s,c,P,E,hb,hc,h1,h2,h3,h4,h5,h6=>by
  obtain ⟨x,hx⟩:=getL (l:=wat) (i:=i) (by omega)
  obtain ⟨p,g1,g2,g3⟩:=(SLof (s:=s) hv).ix bp3 hx
  rw [am8 hx]
  have start:∀(s1:List O) (a:Int) (o:Out),RZ.R ad1 [vO 0 0,vI 7,vS x] s=some (.ret [vI a] s1)->ab4.L3 RZ v3 wat.length ((i+1:Nat):Int) e5 e6 e7 s1=some o->ab4.L3 RZ v3 wat.length i e5 e6 e7 s=some o:=by
   intro s1 a o ha ho
   apply ab4.aP1
   unfold ab4.L3b
   rw [ah8 (by omega)]
   simp only [cond_true,g1,Option.bind_some,ck_t g2,g3,aS_v]
   rw [cS_v ha,aI_v,w6_1 (by omega)]
   exact ho
  cases hans:P.ans with
  | nil=>
   obtain ⟨s1,a1,a2,_⟩:=aY8 hb hc h1 h2 hans 7 x
   exact (aM3 hv hw j (i+1) (by omega) s1 a2).imp fun o ho=>start s1 0 o a1 ho
  | cons a r=>
   obtain ⟨c1,cp1,a1⟩:=aQ0 hb hc h1 hans 7 x
   have hr:=after_is (wat:=wat) (v3:=v3) (e5:=e5) (e6:=e6) (e7:=e7) hv hw j (i+1) (by omega) _ c1 {P with ords:=P.ords++[((7:Int),x)],ans:=r} E (ad5 hb) cp1 h1 h2 h3 h4 h5 h6
   exact hr.imp fun o ho=>start _ a o a1 ho
theorem tail_is {wat:List By}{v3:V}(hv:isL 1 (aa1 wat) v3)(hw:wat.length<=1000){e5:List V}{e6:List V}{e7:List V}{mn commits:Bool}{names:List By}(hl:names.length<=1000)(hnd:names.Nodup)(hsz:∀x∈names,x.size<=40){s:List O}{c:PV}{P:PX}(hb:s[0]? =some (.box (boxP c P)))(hc:CP c P)(hf:aZ1 P){v4:V}{n:Nat}:ResL P.num (if commits=true then rstQ P.num wat names P.ans else bakQ wat names P.ans) (ab4.L0 RZ commits (vL mn 1 (aa1 names)) v3 v4 n n e5 e6 e7 s):=by
 have hr:=rest_is (commits:=commits) (m4:=mn) hl hnd hsz hb hc hf
 have start:∀s1 o,RZ.R ae4 [vO 0 0,vB commits,vL mn 1 (aa1 names)] s=some (.ret [] s1)->ab4.L3 RZ v3 wat.length (0:Nat) e5 e6 e7 s1=some o->ab4.L0 RZ commits (vL mn 1 (aa1 names)) v3 v4 n n e5 e6 e7 s=some o:=by
  intro s1 o h1 ho
  apply ab4.ag4
  unfold ab4.L0b
  rw [ag2,cond_false,ck_t (by rfl),as3 h1,aT_v,aN_v,(SLof (s:=s1) hv).ln]
  exact ho
 have key:∀x:RO,ResG P x (fun s'=>RZ.R ae4 [vO 0 0,vB commits,vL mn 1 (aa1 names)] s=some (.ret [] s'))->ResL P.num (andQ wat x) (ab4.L0 RZ commits (vL mn 1 (aa1 names)) v3 v4 n n e5 e6 e7 s):=by
  intro x hx
  cases x with
  | stop o L=>
   obtain ⟨s',q1,q2⟩:=hx
   exact (aM3 hv hw wat.length 0 (by omega) s' q2).imp fun o ho=>start s' o q1 ho
  | done E L r=>
   obtain ⟨s',c',ords,com,unc,q1,q2,q3,q4⟩:=hx
   have:=after_is hv hw (e5:=e5) (e6:=e6) (e7:=e7) wat.length 0 (by omega) s' c' _ E q3 q4 hf.stp hf.over q2 rfl rfl rfl
   rw [List.drop_zero] at this
   exact this.imp fun o ho=>start s' o q1 ho
 have:=key _ hr
 cases commits with
 | true=>rw [if_pos rfl] at this ⊢;rw [rstQ_eq];exact this
 | false=>rw [if_neg (by simp)] at this ⊢;rw [bakQ_eq];exact this
end
section
variable {wat:List By} {v3:V} (hv:isL 1 (aa1 wat) v3) (hw:wat.length<=1000) {e5 e6 e7:List V} {mn:Bool} {names:List By} (hl:names.length<=1000) (hnd:names.Nodup) (hsz:∀x∈names,x.size<=40)
theorem bef_no {wat:List By}{v3:V}(hv:isL 1 (aa1 wat) v3)(hw:wat.length<=1000){e5:List V}{e6:List V}{e7:List V}{mn:Bool}{names:List By}(hl:names.length<=1000)(hnd:names.Nodup)(hsz:∀x∈names,x.size<=40):∀(j i:Nat),i+j=wat.length->∀(s:List O) (c:PV) (P:PX),s[0]? =some (.box (boxP c P))->CP c P->aZ1 P->ResL P.num (bakQ wat names P.ans) (ab4.L0 RZ false (vL mn 1 (aa1 names)) v3 v3 wat.length i e5 e6 e7 s)
 | 0,i,h,s,c,P,hb,hc,hf=>by
  have hi:i=wat.length:=by omega
  subst hi
  have:=tail_is hv hw (mn:=mn) (commits:=false) (e5:=e5) (e6:=e6) (e7:=e7) hl hnd hsz hb hc hf (v4:=v3) (n:=wat.length)
  rw [if_neg (by simp)] at this
  exact this
 | j+1,i,h,s,c,P,hb,hc,hf=>by
  obtain ⟨x,hx⟩:=getL (l:=wat) (i:=i) (by omega)
  obtain ⟨p,g1,g2,g3⟩:=(SLof (s:=s) hv).ix bp3 hx
  refine (bef_no (wat:=wat) (v3:=v3) (e5:=e5) (e6:=e6) (e7:=e7) (mn:=mn) (names:=names) hv hw hl hnd hsz j (i+1) (by omega) s c P hb hc hf).imp fun o ho=>?_
  apply ab4.ag4
  unfold ab4.L0b
  rw [ah8 (by omega)]
  simp only [cond_true,g1,Option.bind_some,ck_t g2,g3,aS_v,cond_false]
  apply ab4.ak6
  unfold ab4.J1b
  rw [cond_false]
  apply ab4.ar1
  unfold ab4.J2b
  rw [w6_1 (by omega)]
  exact ho
theorem bef_stop {wat:List By}{v3:V}(hv:isL 1 (aa1 wat) v3)(hw:wat.length<=1000){e5:List V}{e6:List V}{e7:List V}{mn:Bool}{names:List By}(hl:names.length<=1000)(hnd:names.Nodup)(hsz:∀x∈names,x.size<=40){num:Int}{L:List By}{o:Int×By}{b:Bool}:∀(j i:Nat),i+j=wat.length->∀s,ar0 s num L o->ResL num (.stop o L) (ab4.L0 RZ b (vL mn 1 (aa1 names)) v3 v3 wat.length i e5 e6 e7 s)
 | 0,i,h,s,hp=>by
  have hi:i=wat.length:=by omega
  refine (aM3 hv hw (e5:=e5) (e6:=e6) (e7:=e7) wat.length 0 (by omega) s hp).imp fun o ho=>?_
  apply ab4.ag4
  unfold ab4.L0b
  rw [hi,ag2,cond_false,ck_t (by rfl),as3 (rest_stop hp),aT_v,aN_v,(SLof (s:=s) hv).ln]
  exact ho
 | j+1,i,h,s,hp=>by
  obtain ⟨x,hx⟩:=getL (l:=wat) (i:=i) (by omega)
  obtain ⟨p,g1,g2,g3⟩:=(SLof (s:=s) hv).ix bp3 hx
  refine (bef_stop (wat:=wat) (v3:=v3) (e5:=e5) (e6:=e6) (e7:=e7) (mn:=mn) (names:=names) hv hw hl hnd hsz (b:=b) j (i+1) (by omega) s hp).imp fun o ho=>?_
  have J1:ab4.J1 RZ b (vL mn 1 (aa1 names)) v3 v3 wat.length i false e5 e6 e7 s=some o:=by
   apply ab4.ak6
   unfold ab4.J1b
   rw [cond_false]
   apply ab4.ar1
   unfold ab4.J2b
   rw [w6_1 (by omega)]
   exact ho
  apply ab4.ag4
  unfold ab4.L0b
  rw [ah8 (by omega)]
  simp only [cond_true,g1,Option.bind_some,ck_t g2,g3,aS_v]
  cases b with
  | true=>rw [cond_true,cS_v (hp.ask 1 x),aI_v];exact J1
  | false=>exact J1
theorem bef_is {wat:List By}{v3:V}(hv:isL 1 (aa1 wat) v3)(hw:wat.length<=1000){e5:List V}{e6:List V}{e7:List V}{mn:Bool}{names:List By}(hl:names.length<=1000)(hnd:names.Nodup)(hsz:∀x∈names,x.size<=40):∀(j i:Nat),i+j=wat.length->∀(s:List O) (c:PV) (P:PX),s[0]? =some (.box (boxP c P))->CP c P->aZ1 P->ResL P.num (befQ P.num names wat (wat.drop i) P.ans) (ab4.L0 RZ true (vL mn 1 (aa1 names)) v3 v3 wat.length i e5 e6 e7 s)
 | 0,i,h,s,c,P,hb,hc,hf=>by
  have hi:i=wat.length:=by omega
  subst hi
  have:=tail_is hv hw (mn:=mn) (commits:=true) (e5:=e5) (e6:=e6) (e7:=e7) hl hnd hsz hb hc hf (v4:=v3) (n:=wat.length)
  rw [if_pos rfl] at this
  rw [List.drop_length]
  exact this
 | j+1,i,h,s,c,P,hb,hc,hf=>by
  obtain ⟨x,hx⟩:=getL (l:=wat) (i:=i) (by omega)
  obtain ⟨p,g1,g2,g3⟩:=(SLof (s:=s) hv).ix bp3 hx
  rw [am8 hx]
  have start:∀(s1:List O) (a:Int) (o:Out),RZ.R ad1 [vO 0 0,vI 1,vS x] s=some (.ret [vI a] s1)->ab4.L0 RZ (!(a==2)) (vL mn 1 (aa1 names)) v3 v3 wat.length ((i+1:Nat):Int) e5 e6 e7 s1=some o->ab4.L0 RZ true (vL mn 1 (aa1 names)) v3 v3 wat.length i e5 e6 e7 s=some o:=by
   intro s1 a o ha ho
   apply ab4.ag4
   unfold ab4.L0b
   rw [ah8 (by omega)]
   simp only [cond_true,g1,Option.bind_some,ck_t g2,g3,aS_v]
   rw [cS_v ha,aI_v]
   apply ab4.ak6
   unfold ab4.J1b
   have J2:∀b,ab4.L0 RZ b (vL mn 1 (aa1 names)) v3 v3 wat.length ((i+1:Nat):Int) e5 e6 e7 s1=some o->ab4.J2 RZ b (vL mn 1 (aa1 names)) v3 v3 wat.length i e5 e6 e7 s1=some o:=by
    intro b hb
    apply ab4.ar1
    unfold ab4.J2b
    rw [w6_1 (by omega)]
    exact hb
   by_cases h2:a=2
   ·rw [beq_iff_eq.2 h2] at ho ⊢;exact J2 false ho
   ·rw [beq_eq_false_iff_ne.2 h2] at ho ⊢;exact J2 true ho
  cases hans:P.ans with
  | nil=>
   obtain ⟨s1,a1,a2,_⟩:=aY8 hb hc hf.stp hf.over hans 1 x
   have:=bef_stop hv hw (mn:=mn) hl hnd hsz (b:=true) (e5:=e5) (e6:=e6) (e7:=e7) j (i+1) (by omega) s1 a2
   rw [hf.lines] at this
   exact this.imp fun o ho=>start s1 0 o a1 ho
  | cons a r=>
   obtain ⟨c1,cp1,a1⟩:=aQ0 hb hc hf.stp hans 1 x
   have hf1:aZ1 {P with ords:=P.ords++[((1:Int),x)],ans:=r}:=⟨hf.stp,hf.over,hf.lines,hf.com,hf.mix,hf.haz,hf.dbt,hf.num⟩
   show ResL P.num ((if a=2 then bakQ wat names else befQ P.num names wat (wat.drop (i+1)):Kq) r) _
   by_cases h2:a=2
   ·rw [if_pos h2]
    have:=bef_no hv hw (mn:=mn) hl hnd hsz (e5:=e5) (e6:=e6) (e7:=e7) j (i+1) (by omega) _ c1 _ (ad5 hb) cp1 hf1
    exact this.imp fun o ho=>start _ a o a1 (by rw [beq_iff_eq.2 h2];exact ho)
   ·rw [if_neg h2]
    have:=bef_is (wat:=wat) (v3:=v3) (e5:=e5) (e6:=e6) (e7:=e7) (mn:=mn) (names:=names) hv hw hl hnd hsz j (i+1) (by omega) _ c1 _ (ad5 hb) cp1 hf1
    exact this.imp fun o ho=>start _ a o a1 (by rw [beq_eq_false_iff_ne.2 h2];exact ho)
theorem Play_is {wat:List By}{v3:V}(hv:isL 1 (aa1 wat) v3)(hw:wat.length<=1000){mn:Bool}{names:List By}(hl:names.length<=1000)(hnd:names.Nodup)(hsz:∀x∈names,x.size<=40){commits ma:Bool}{num:Int}(hnum:0<=num/\num<100){ans:List Int}(ha:ans.length<=1000)(hm:af5 ans≠[]->ma=true):ResL num (bC8 num commits names wat ans) (RZ.R au5 [vI num,vB commits,vL mn 1 (aa1 names),v3,vL ma 1 (af5 ans)] []):=by
 let c0:PV:=⟨.list false 3 [],.list false 0 [],.list false 0 [],vL ma 1 (af5 ans),nilB (vL ma 1 (af5 ans))⟩
 let P0:PX:=⟨[],[],false,false,false,[],false,false,num,ans,false⟩
 have hb:([O.box (boxP c0 P0)]:List O)[0]? =some (.box (boxP c0 P0)):=rfl
 have hc:CP c0 P0:=⟨aq7,aq7,aq7,isLn hm,by simpa [P0] using ha,by simp [P0]⟩
 have hf:aZ1 P0:=⟨rfl,rfl,rfl,rfl,rfl,rfl,rfl,hnum⟩
 have start:∀o,ab4.L0 RZ commits (vL mn 1 (aa1 names)) v3 v3 wat.length (0:Nat) [] [] [] [O.box (boxP c0 P0)]=some o->RZ.R au5 [vI num,vB commits,vL mn 1 (aa1 names),v3,vL ma 1 (af5 ans)] []=some o:=by
  intro o ho
  apply ab4.b_of
  unfold ab4.b
  rw [(SLof (s:=[]) hv).ln]
  exact ho
 cases commits with
 | true=>
  have:=bef_is hv hw (mn:=mn) hl hnd hsz (e5:=[]) (e6:=[]) (e7:=[]) wat.length 0 (by omega) _ c0 P0 hb hc hf
  rw [List.drop_zero] at this
  exact this.imp start
 | false=>
  have:=bef_no hv hw (mn:=mn) hl hnd hsz (e5:=[]) (e6:=[]) (e7:=[]) wat.length 0 (by omega) _ c0 P0 hb hc hf
  exact this.imp start
end
end Go.Proofs.YtnpjififnhjbbaaDoor.E
