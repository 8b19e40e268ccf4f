/- It is proved of maps, of every operation and of calls that the machine does what the evaluator does. No condition beyond the lemmas' own. -/
import Derived.Test.YtnpjififnhjbbaaDoorE2
import Derived.Laws.StructEq
import Derived.RangeFuncRecord
import Derived.RangeFuncLeaves
namespace Go.Proofs.YtnpjififnhjbbaaDoor.E
open Go
section
variable {P:Program} {H:ae2} {mo:Nat->Nat->Prop} {acc:Own} {w0:World} {own:Own} {st:St} {a:Act} {w:World}
theorem makeSlice_run (h:FR P H mo acc w0 own st a w)(t e:TypeId)(ht:P.underlying t=some (.slice e))(z:V)(hz:zeroV P e=some z)(hK:0<P.cellsOf e)(hzk:z.cells.length=P.cellsOf e)(hg:ac5 z.cells=true)(kl kc:IntKind)(l c:Int)
  (h1:0<=l) (h2:l<=c) (h3:c*P.bytesOf e<=140737488355328) (h4:c<=140737488355328):
  ∃u w' own',(Instr.makeSlice t (.int kl l) (.int kc c)).run P w=.ok u w'/\FR P H mo acc w0 own' {st with g:=st.g+1,l:=st.g::st.l} a w'/\XRel (Mut mo own') own' w' (.list true (P.cellsOf e) (List.replicate l.toNat z)) u /\
   TRel own' (st.g::st.l) (st.g+1) (.list true (P.cellsOf e) (List.replicate l.toNat z)) (.tok st.g) u:=by
 obtain ⟨i,zv,hi,hiz,rfl⟩:=an4 hz
 have hsize:i.size=P.cellsOf e:=by simp [Program.cellsOf,hi]
 have hbytes:i.bytes=P.bytesOf e:=by simp [Program.bytesOf,hi]
 have hrun:=run_make w t e i zv ht hi hiz kl kc l c h1 h2 (by rw [hbytes,Int.mul_comm];omega) (by omega)
 rw [hsize] at hrun
 have hc:=(ag6 (Mut mo own) own w zv).crel hg
 have hrow:=ERel.zeros (n:=c.toNat) hc hzk hK
 obtain ⟨own',p1,p2,p3⟩:=h.newRow (P.cellsOf e) (List.replicate l.toNat (ofConst zv)) (madeCells zv.cells (c.toNat*P.cellsOf e)) e (fun x hx=>by rw [(List.mem_replicate.1 hx).2];exact ⟨hzk,hg⟩)
  (fun i2 e2 j x he hx=>by
   have he2:(List.replicate c.toNat (ofConst zv))[i2]? =some e2:=by
    rw [List.getElem?_replicate] at he ⊢
    split at he
    ·rw [if_pos (by omega)];exact he
    ·simp at he
   exact hrow.getD he2 hx) l.toNat c.toNat (by simp) (by omega) (by simp [size_madeCells])
 exact ⟨_,_,own',hrun,p1,XRel.of p2,p3⟩
theorem buildSlice_run (h:FR P H mo acc w0 own st a w)(t e:TypeId)(ht:P.underlying t=some (.slice e))(n:Nat)(z:V)(hz:zeroV P e=some z)(hK:0<P.cellsOf e)(hn:n*P.cellsOf e<=16777216)(hzk:z.cells.length=P.cellsOf e)(hg:ac5 z.cells=true)
  (parts:List (Nat×V)) (parts':Array (Nat×Value)) (hl:parts'.size=parts.length)
  (hp:∀(j:Nat) (p:Nat×V) (q:Nat×Value),parts[j]? =some p->parts'.toList[j]? =some q->q.1=p.1/\XRel (Mut mo own) own w p.2 q.2) (es:List V) (hes:at5 (P.cellsOf e) (List.replicate n z) parts=some es):
  ∃u w',(Instr.buildSlice t n parts').run P w=.ok u w'/\FR P H mo acc w0 own st a w'/\XRel (Mut mo own) own w' (.list true (P.cellsOf e) es) u/\TRel own st.l st.g (.list true (P.cellsOf e) es) .full u:=by
 obtain ⟨i,zv,hi,hiz,rfl⟩:=an4 hz
 have hsize:i.size=P.cellsOf e:=by simp [Program.cellsOf,hi]
 have hc:=(ag6 (Mut mo own) own w zv).crel hg
 obtain ⟨hle,r',g1,g2⟩:=aM8 (M:=Mut mo own) (own:=own) (w:=w) (P.cellsOf e) hK parts parts'.toList _ es _ (by simpa using hl) hp (ERel.zeros (n:=n) hc hzk hK) hes
 simp at hle
 have hrun:(Instr.buildSlice t n parts').run P w=.ok (.slice (some ⟨w.heap.size,0,none⟩) n n) (w.alloc (.cells r' e)):=by
  by_cases h0:n=0
  ·subst h0
   cases parts with
   | cons p _=>simp [at5,ck] at hes
   | nil=>
    have hpe:parts'.toList=[]:=by
     have:parts'.toList.length=0:=by simpa using hl
     exact List.eq_nil_of_length_eq_zero this
    rw [hpe] at g1
    simp [Instr.fill] at g1
    subst g1
    have e0:∀f:Nat->Value,Array.map f (Array.range 0)= #[]:=fun f=>Array.size_eq_zero_iff.1 (by simp)
    simp [Instr.buildSlice,run_underlying ht,sizeOf,typeInfo,hi,hpe,Instr.fill,newRow,e0]
  ·exact run_buildSlice w t e n parts' r' i zv ht hi hiz (by rw [hsize];omega) (by rw [hsize];have:=Nat.mul_pos (Nat.pos_of_ne_zero h0) hK;omega) (by rw [hsize];exact g1)
 refine ⟨_,_,hrun,h.alloc _,XRel.of (new_row h (P.cellsOf e) es r' e g2.2.1 (fun i e j x he hx=>g2.getD he hx) n n hle (Nat.le_refl _)),fun a n c hx=>?_⟩
 injection hx with _ q1 q2
 omega
theorem makeMap_run (h:FR P H mo acc w0 own st a w)(t:TypeId):∃w' own',(Instr.makeMap t none).run P w=.ok (.map (some w.heap.size)) w'/\FR P H mo acc w0 own' {st with s:=st.s++[.map [] 0]} a w'/\XRel (Mut mo own') own' w' (.map st.s.length) (.map (some w.heap.size)):=by
 have hmo:∀b x,mo b x->b<w.heap.size:=fun b x hm=>Nat.lt_of_lt_of_le (h.mlt b x hm) h.keep.size
 obtain ⟨hk,hgh⟩:=h.sr.newObj _ (Nat.le_refl st.s.length)
 have p:=Post.aE1 (mo:=mo) h.sr.base hmo (.map #[] 0) (.obj st.s.length) hk 0 1 (by simp [Key.room]) (fun id e=>by injection e with e;subst e;exact Own.aQ7 hk hgh)
 refine ⟨_,_,rfl,h.post p rfl rfl (Nat.le_refl _) (fun g _ hm=>⟨hm,by simp⟩) h.tokLt (fun g hm=>by rw [Own.ab6 _ _ (by simp)];exact h.newTok g hm) (fun i r e=>by rw [Own.ab6 _ _ (by simp)];exact e)
  (fun i box hb=>.inl ⟨hb,by simp⟩) (fun i hi=>by rw [Own.ab6 _ _ (by simp)];exact h.newLoc i hi) ?_ ?_ ?_,XRel.of (.map _ _ (Own.aj0 (Own.ab7 _ _ _)))⟩
 ·intro id o ho
  rw [List.getElem?_append] at ho
  split at ho
  ·exact .inl ⟨ho,by simp;omega,by simp⟩
  ·have:id=st.s.length:=by
    have:=(List.getElem?_eq_some_iff.1 ho).1
    simp at this;omega
   subst this
   simp at ho
   subst ho
   exact .inr ⟨w.heap.size,#[],by rw [Own.ab7],heap_alloc_new _,⟨rfl,rfl⟩,fun j k v e hj=>by simp at hj⟩
 ·intro id hi
  simp at hi
  exact at1 (by simp;omega) (by simp) (h.sr.newObj id (by omega))
 ·intro id off r e
  rw [Own.ab6 _ _ (by simp)] at e
  obtain ⟨cs2,v,c1,c2⟩:=h.sr.spare id off r e
  exact ⟨cs2,v,by rw [List.getElem?_append_left (List.getElem?_eq_some_iff.1 c1).1];exact c1,c2⟩
def MRel (M:Nat->Nat->Prop)(own:Own)(w:World)(es:List (V×V))(es':List MapEntry)(i:Nat:=0):Prop:=
 es'.length=es.length/\∀(j:Nat) (k v:V) (e:MapEntry),es[j]? =some (k,v)->es'[j]? =some e->VRel M own.rho w k e.key/\VRel M own.rho w v e.val/\aj2 k=true/\e.born=i+j
theorem aC5 (h:SR P mo own st.s w)(m:V)(es:List (V×V)×Nat)(hm:mapOf st m=some es)(m':Value)(hx:XRel (Mut mo own) own w m m'):
  (m=.nilmap/\m'=.map none/\es=([],0))∨∃id b es',m=.map id/\m'=.map (some b)/\own (.obj id)=some (b,0,1)/\st.s[id]? =some (.map es.1 es.2)/\w.heap[b]? =some (.map es' es.2)/\MRel (Mut mo own) own w es.1 es'.toList/\es.2=es.1.length:=by
 unfold mapOf at hm
 split at hm
 ·simp only [Option.some.injEq] at hm
  cases hx
  exact .inl ⟨rfl,rfl,hm.symm⟩
 ·rename_i id
  split at hm
  ·rename_i es0 c hs
   simp only [Option.some.injEq] at hm
   subst hm
   obtain ⟨b,es',g1,g2,g3,g4⟩:=h.objs id _ hs
   cases hx with
   | map _ b' hb=>
   rw [Own.aj0 g1] at hb
   injection hb with hb
   injection hb with hb _
   subst hb
   exact .inr ⟨id,b,es',rfl,rfl,g1,hs,g2,⟨by simpa using g3.1,fun j k v e hj he=>by rw [Nat.zero_add];exact g4 j k v e hj (by simpa using he)⟩,g3.2⟩
  ·simp at hm
 ·simp at hm
structure bh9 (P:Program)(M:Nat->Nat->Prop)(own:Own)(w:World)(kt:TypeId)(key:V)(key':Value)(F:List MapEntry->Nat->Option (Nat×Value)->Prop):Prop where
 nil:∀i,F [] i none
 hit:∀(k:V) (e:MapEntry) (es:List MapEntry) (i:Nat),VRel M own.rho w k e.key->az1 key k=some true->F (e::es) i (some (i,e.val))
 miss:∀(k:V) (e:MapEntry) (es:List MapEntry) (i:Nat) (r:Option (Nat×Value)),VRel M own.rho w k e.key->az1 key k=some false->F es (i+1) r->F (e::es) i r
 find:∀(es:List MapEntry) (r:Option (Nat×Value)),F es 0 r->(Instr.findKey kt key' es).run P w=.ok r w
theorem bh9.plain {M:Nat->Nat->Prop}{kt:TypeId}{d:TypeDesc}{key:V}{key':Value}(hd:P.underlying kt=some d)(hs:∀(k:V) (k':Value),VRel M own.rho w k k'->∀r,az1 key k=some r->Instr.sameNow d key' k'=some r):
  bh9 P M own w kt key key' (fun es i r=>Instr.findNow d key' es i=some r) where
 nil:=fun i=>rfl
 hit:=fun k e es i h1 h2=>by rw [Instr.findNow,hs k e.key h1 true h2]
 miss:=fun k e es i r h1 h2 h3=>by rw [Instr.findNow,hs k e.key h1 false h2];exact h3
 find:=fun es r h=>by
  unfold Instr.findKey
  rw [ab3 (run_underlying hd w),h]
  rfl
theorem keyOk1_eq {t:TypeId}{c d:V}{p:Bool}(h:bj9 P t c=true)(he:aV7 c d=some p):eqB P t c d=some p/\af4 P t=false/\∃dd,P.underlying t=some dd:=by
 unfold bj9 at h
 split at h
 ·rename_i hd
  unfold aV7 at he;split at he<;>simp_all [eqB,af4]
 ·rename_i hd
  unfold aV7 at he;split at he<;>simp_all [eqB,af4]
 ·rename_i hd
  unfold aV7 at he;split at he<;>simp_all [eqB,af4]
 ·cases h
theorem keyFs_eq (xs ys:List V):∀(fs:List Field) (i:Nat) (cs ds:List V) (b:Bool),aT8 P i fs cs=true->av9 cs ds=some b->(∀j,xs[i+j]? =cs[j]?)->(∀j,ys[i+j]? =ds[j]?)->eqFs P xs ys fs=some b
 | [],i,[],[],b,_,h,_,_=>by simp [av9] at h;rw [eqFs,h]
 | [],i,[],_::_,b,_,h,_,_=>by simp [av9] at h
 | [],i,_::_,ds,b,h,_,_,_=>by simp [aT8] at h
 | f::fs,i,[],ds,b,h,_,_,_=>by simp [aT8] at h
 | f::fs,i,c::cs,[],b,_,h,_,_=>by simp [av9] at h
 | f::fs,i,c::cs,d::ds,b,h,he,hx,hy=>by
  simp only [aT8,Bool.and_eq_true] at h
  obtain ⟨⟨⟨h1,h2⟩,h3⟩,h4⟩:=h
  rw [av9] at he
  obtain ⟨p,hp,he⟩:=Option.bind_eq_some_iff.1 he
  obtain ⟨q,hq,he⟩:=Option.map_eq_some_iff.1 he
  obtain ⟨e1,e2,_⟩:=keyOk1_eq h3 hp
  have ho:f.offset=i:=Nat.eq_of_beq_eq_true h2
  have IH:=keyFs_eq xs ys fs (i+1) cs ds q h4 hq (fun j=>by have:=hx (j+1);rw [show i+1+j=i+(j+1) by omega,this];rfl) (fun j=>by have:=hy (j+1);rw [show i+1+j=i+(j+1) by omega,this];rfl)
  rw [eqFs,h1,e2,ho,show xs[i]? =some c from hx 0,show ys[i]? =some d from hy 0]
  simp only [Bool.not_false,Bool.and_true,ck,cond_true,Option.bind_some,e1]
  cases p with
  | true=>rw [cond_true,IH,←he];rfl
  | false=>rw [cond_false,←he];rfl
theorem bf5 (b:Bool)(n:Nat)(cs:List V)(xs':Array Value)(hs:xs'.size=cs.length):∀(fs:List Field) (i:Nat),aT8 P i fs (cs.drop i)=true ->
  ((do for f in fs do if f.name≠ "_" then Instr.checkKey b (n+1) f.type (←part f.type xs' f.offset):Sem Unit)).run P w=.ok () w/\True
 | [],i,h=>⟨by simp,trivial⟩
 | f::fs,i,h=>by
  refine ⟨?_,trivial⟩
  cases hc:cs.drop i with
  | nil=>rw [hc] at h;simp [aT8] at h
  | cons c r=>
   have hr:r=cs.drop (i+1):=by rw [←List.drop_drop,hc];rfl
   rw [hc] at h
   simp only [aT8,Bool.and_eq_true] at h
   obtain ⟨⟨⟨h1,h2⟩,h3⟩,h4⟩:=h
   have ho:f.offset=i:=Nat.eq_of_beq_eq_true h2
   have hn:f.name≠ "_" :=by simpa using h1
   have hlt:i<xs'.size:=by
    rw [hs]
    have:=congrArg List.length hc
    simp at this
    omega
   have e1:xs'[f.offset]? =some xs'[i]:=by rw [ho];exact Array.getElem?_eq_getElem hlt
   obtain ⟨hag,dd,hd,hnot⟩:af4 P f.type=false/\∃dd,P.underlying f.type=some dd/\∀v,(Instr.checkKey b (n+1) f.type v).run P w=.ok () w:=by
    unfold bj9 at h3
    split at h3
    ·rename_i hd;exact ⟨by simp [af4,hd],_,hd,fun v=>by rw [Instr.checkKey,ab3 (run_underlying hd w)];rfl⟩
    ·rename_i hd;exact ⟨by simp [af4,hd],_,hd,fun v=>by rw [Instr.checkKey,ab3 (run_underlying hd w)];rfl⟩
    ·rename_i hd;exact ⟨by simp [af4,hd],_,hd,fun v=>by rw [Instr.checkKey,ab3 (run_underlying hd w)];rfl⟩
    ·cases h3
   have p1:(part f.type xs' f.offset).run P w=.ok xs'[i] w:=by
    unfold part;rw [ab3 (ax8 _ _ hd w),hag];simp [e1]
   have IH:=(bf5 b n cs xs' hs fs (i+1) (by rw [←hr];exact h4)).1
   simp only [List.forIn_cons,Sem.run_bind,hn,ne_eq,not_false_eq_true,if_true,p1,hnot,Result.andThen_ok,Sem.run_pure]
   simp at IH ⊢
   rw [IH]
   rfl
theorem bj8 {kt:TypeId}{key:V}(h:aN7 P kt key=true){key':Value}(hx:XRel (Mut mo own) own w key key'):∃F,(∀b n,(Instr.checkKey b (n+2) kt key').run P w=.ok () w) /\
  bh9 P (Mut mo own) own w kt key key' F/\VRel (Mut mo own) own.rho w key key'/\aj2 key=true/\(∀k k' r,VRel (Mut mo own) own.rho w k k'->az1 key k=some true->Instr.sameBits (r+2) k' key'=true):=by
 unfold aN7 at h
 split at h
 ·rename_i kk k n hd
  cases hx
  refine ⟨_,fun b n=>by rw [Instr.checkKey,ab3 (run_underlying hd w)];rfl,bh9.plain hd fun k2 k' hk r hr=>?_,.int _ _,rfl,fun k2 k' r hk hr=>?_⟩
  ·unfold az1 at hr;split at hr<;>simp_all<;>cases hk<;>simp [Instr.sameNow,hr]
  ·unfold az1 at hr;split at hr<;>simp_all<;>cases hk<;>simp [Instr.sameBits]
 ·rename_i s hd
  cases hx
  refine ⟨_,fun b n=>by rw [Instr.checkKey,ab3 (run_underlying hd w)];rfl,bh9.plain hd fun k2 k' hk r hr=>?_,.str _,rfl,fun k2 k' r hk hr=>?_⟩
  ·unfold az1 at hr;split at hr<;>simp_all<;>cases hk<;>simp [Instr.sameNow,hr]
  ·unfold az1 at hr;split at hr<;>simp_all<;>cases hk<;>simp only [Instr.sameBits]
   rw [beq_toListBytes] at hr ⊢
   simpa using (by simpa using hr:_=_).symm
 ·rename_i s hd
  cases hx
  refine ⟨_,fun b n=>by rw [Instr.checkKey,ab3 (run_underlying hd w)];rfl,bh9.plain hd fun k2 k' hk r hr=>?_,.bool _,rfl,fun k2 k' r hk hr=>?_⟩
  ·unfold az1 at hr;split at hr<;>simp_all<;>cases hk<;>simp [Instr.sameNow,hr]
  ·unfold az1 at hr;split at hr<;>simp_all<;>cases hk<;>simp [Instr.sameBits]
 ·rename_i fs cs hd
  simp only [Bool.and_eq_true,Bool.not_eq_true'] at h
  obtain ⟨hh,hf⟩:=h
  cases hx with
  | agg _ xs' sx gx hx=>
  have hfo:P.fieldsOf kt=fs:=by simp [Program.fieldsOf,hd]
  have heq:∀(ds:List V) (ys':Array Value) (b:Bool),VRel (Mut mo own) own.rho w (.agg ds) (.agg ys')->av9 cs ds=some b->(Op.equal kt (.agg xs') (.agg ys')).run P w=.ok b w:=by
   intro ds ys' b hy hb
   cases hy with
   | agg _ _ sy gy hy=>
   show (Op.equalIn (9999+1) kt _ _).run P w=_
   rw [run_equalIn_struct w 9999 kt xs' ys' (by rw [hfo];exact hd) hh,hfo]
   exact bk8 9998 cs ds xs' ys' sx sy hx hy fs.toList b (keyFs_eq cs ds fs.toList 0 cs ds b hf hb (fun j=>by rw [Nat.zero_add]) (fun j=>by rw [Nat.zero_add]))
  have agg:∀(k:V) (x:Value) (b:Bool),VRel (Mut mo own) own.rho w k x->az1 (.agg cs) k=some b->∃ds ys',k=.agg ds/\x=.agg ys'/\av9 cs ds=some b:=by
   intro k x b hk hb
   cases k with
   | agg ds=>cases hk with
    | agg _ ys' sy gy hy=>exact ⟨ds,ys',rfl,rfl,hb⟩
   | _=>simp [az1] at hb
  refine ⟨fun es i r=>(Instr.findAsking kt (.agg xs') es i).run P w=.ok r w,fun b n=>?_,⟨fun i=>rfl,fun k e es i h1 h2=>?_,fun k e es i r h1 h2 h3=>?_,fun es r h=>?_⟩,.agg _ _ sx gx hx,?_,fun k2 k' r hk hr=>?_⟩
  ·rw [Instr.checkKey,ab3 (run_underlying hd w)]
   dsimp only
   rw [←Array.forIn_toList]
   exact (bf5 b n cs xs' sx fs.toList 0 hf).1
  ·obtain ⟨ds,ys',rfl,q,h3⟩:=agg k _ _ h1 h2
   rw [q] at h1
   rw [Instr.findAsking,q,ab3 (heq ds ys' true h1 h3)]
   rfl
  ·obtain ⟨ds,ys',rfl,q,h4⟩:=agg k _ _ h1 h2
   rw [q] at h1
   rw [Instr.findAsking,q,ab3 (heq ds ys' false h1 h4)]
   exact h3
  ·unfold Instr.findKey
   rw [ab3 (run_underlying hd w)]
   cases es with
   | nil=>exact h
   | cons e r2=>exact h
  ·clear hx gx sx heq agg
   show ac0 cs=true
   generalize fs.toList=l at hf
   generalize 0=i at hf
   induction cs generalizing l i with
   | nil=>rfl
   | cons c cs ih=>
    cases l with
    | nil=>simp [aT8] at hf
    | cons f l=>
     simp only [aT8,Bool.and_eq_true] at hf
     rw [ac0,ih _ _ hf.2,Bool.and_true]
     have:=hf.1.2
     unfold bj9 at this
     split at this
     ·rfl
     ·rfl
     ·rfl
     ·cases this
  ·obtain ⟨ds,ys',rfl,rfl,h4⟩:=agg k2 _ _ hk hr
   cases hk with
   | agg _ _ sy gy hy=>
   have hlen:∀(a b:List V) (r:Bool),av9 a b=some r->a.length=b.length:=by
    intro a
    induction a with
    | nil=>intro b r h;cases b with
     | nil=>rfl
     | cons=>simp [av9] at h
    | cons x a ih=>intro b r h;cases b with
     | nil=>simp [av9] at h
     | cons y b=>
      rw [av9] at h
      obtain ⟨p,hp,h⟩:=Option.bind_eq_some_iff.1 h
      obtain ⟨q,hq,h⟩:=Option.map_eq_some_iff.1 h
      simp [ih b q hq]
   have hat:∀(a b:List V),av9 a b=some true->∀(j:Nat) (x y:V),a[j]? =some x->b[j]? =some y->aV7 x y=some true:=by
    intro a
    induction a with
    | nil=>intro b h j x y hx;simp at hx
    | cons u a ih=>intro b h j x y hx hy;cases b with
     | nil=>simp [av9] at h
     | cons v b=>
      rw [av9] at h
      obtain ⟨p,hp,h⟩:=Option.bind_eq_some_iff.1 h
      obtain ⟨q,hq,h⟩:=Option.map_eq_some_iff.1 h
      simp only [Bool.and_eq_true] at h
      obtain ⟨rfl,rfl⟩:=h
      cases j with
      | zero=>simp at hx hy;rw [←hx,←hy];exact hp
      | succ j=>exact ih b hq j x y (by simpa using hx) (by simpa using hy)
   show (ys'.size==xs'.size&&(ys'.toList.zip xs'.toList).all fun p=>Instr.sameBits (r+1) p.1 p.2)=true
   rw [Bool.and_eq_true,beq_iff_eq,List.all_eq_true]
   refine ⟨by rw [sy,sx,hlen _ _ _ h4],fun p hp=>?_⟩
   obtain ⟨j,hj,e⟩:=List.getElem_of_mem hp
   rw [List.getElem_zip] at e
   rw [←e]
   simp only [List.length_zip,Array.length_toList] at hj
   have j1:j<ys'.size:=by omega
   have j2:j<xs'.size:=by omega
   have a1:=hx j cs[j] xs'[j] (List.getElem?_eq_getElem (by omega)) (Array.getElem?_eq_getElem j2)
   have a2:=hy j ds[j] ys'[j] (List.getElem?_eq_getElem (by omega)) (Array.getElem?_eq_getElem j1)
   have a3:=hat _ _ h4 j cs[j] ds[j] (List.getElem?_eq_getElem (by omega)) (List.getElem?_eq_getElem (by omega))
   simp only [Array.getElem_toList]
   generalize cs[j]=c at a1 a3
   generalize ds[j]=d at a2 a3
   generalize xs'[j]=x at a1 ⊢
   generalize ys'[j]=y at a2 ⊢
   unfold aV7 at a3
   split at a3
   ·split at a3
    ·rename_i hkk;subst hkk
     cases a1;cases a2
     simp at a3
     subst a3
     simp [Instr.sameBits]
    ·cases a3
   ·cases a1;cases a2
    simp only [Instr.sameBits]
    simp only [Option.some.injEq] at a3
    rw [beq_toListBytes] at a3 ⊢
    simpa using (by simpa using a3:_=_).symm
   ·cases a1;cases a2
    simp at a3
    subst a3
    simp [Instr.sameBits]
   ·cases a3
 ·simp at h
end
end Go.Proofs.YtnpjififnhjbbaaDoor.E
namespace Go.Proofs.YtnpjififnhjbbaaDoor.E
open Go
section
variable {P:Program} {H:ae2} {mo:Nat->Nat->Prop} {acc:Own} {w0:World} {own:Own} {st:St} {a:Act} {w:World}
theorem MRel.tail {M:Nat->Nat->Prop}{p:V×V}{r:List (V×V)}{e:MapEntry}{r':List MapEntry}{i:Nat}(h:MRel M own w (p::r) (e::r') i):(VRel M own.rho w p.1 e.key/\VRel M own.rho w p.2 e.val/\aj2 p.1=true/\e.born=i)/\MRel M own w r r' (i+1):=
 ⟨h.2 0 p.1 p.2 e rfl rfl,by have:=h.1;simpa using this,fun j k v e' hj he=>by rw [show i+1+j=i+(j+1) by omega];exact h.2 (j+1) k v e' (by simpa using hj) (by simpa using he)⟩
theorem bk3 {M:Nat->Nat->Prop}{kt:TypeId}{key:V}{key':Value}{F:List MapEntry->Nat->Option (Nat×Value)->Prop}(hs:bh9 P M own w kt key key' F):
  ∀(es:List (V×V)) (es':List MapEntry) (i:Nat),MRel M own w es es' i->∀(r:Option V),aB1 key es=some r ->
   ∃r',F es' i r'/\match r,r' with | none,none=>True | some v,some (_,x)=>VRel M own.rho w v x | _,_=>False
 | [],es',i,h,r,hr=>by
  have:es'=[]:=List.eq_nil_of_length_eq_zero (by simpa using h.1)
  subst this
  simp [aB1] at hr
  subst hr
  exact ⟨none,hs.nil i,trivial⟩
 | (k,v)::t,[],_,h,_,_=>by have:=h.1;simp at this
 | (k,v)::t,e::t',i,h,r,hr=>by
  obtain ⟨⟨h1,h2,h3⟩,h4⟩:=h.tail
  rw [aB1] at hr
  obtain ⟨b,hb,hr⟩:=Option.bind_eq_some_iff.1 hr
  cases b with
  | true=>
   simp only [cond_true,Option.some.injEq] at hr
   subst hr
   exact ⟨some (i,e.val),hs.hit k e t' i h1 hb,h2⟩
  | false=>
   simp only [cond_false] at hr
   obtain ⟨r',q1,q2⟩:=bk3 hs t t' (i+1) h4 r hr
   exact ⟨r',hs.miss k e t' i r' h1 hb q1,q2⟩
theorem zero_rel {e:TypeId}{zv:Value}(hgz:ofConst zv≠.undef):VRel (Mut mo own) own.rho w (ofConst zv) zv:=
 (ag6 (Mut mo own) own w zv).to hgz (by
  intro i o e
  unfold ofConst at e
  split at e
  ·split at e<;>simp at e
  ·rcases aD7 (Mut mo own) own.rho w zv with q | ⟨q,_⟩
   ·rw [q] at e;cases e
   ·rw [e] at q;simp [V.good] at q)
theorem lookup_run (h:FR P H mo acc w0 own st a w)(t kt e:TypeId)(ht:P.underlying t=some (.map kt e))(m key:V)(hk:aN7 P kt key=true)(es:List (V×V)×Nat)(hm:mapOf st m=some es)(r:Option V)(hr:aB1 key es.1=some r)(z:V)(hz:zeroV P e=some z)
  (m' key':Value) (hx:XRel (Mut mo own) own w m m') (hkey:XRel (Mut mo own) own w key key') (ok:Bool) (hgz:z≠.undef):
  ∃u,(Instr.lookup t m' key' ok).run P w=.ok u w/\XRel (Mut mo own) own w (if ok then .tup [r.getD z,.bool r.isSome] else r.getD z) u:=by
 obtain ⟨i,zv,hi,hiz,rfl⟩:=an4 hz
 have hzv:=(ag6 (Mut mo own) own w zv).to hgz (by
  intro i o e
  unfold ofConst at e
  split at e
  ·split at e<;>simp at e
  ·rcases aD7 (Mut mo own) own.rho w zv with q | ⟨q,_⟩
   ·rw [q] at e;cases e
   ·rw [e] at q;simp [V.good] at q)
 obtain ⟨F,c1,c2,c3,c4,c5⟩:=bj8 hk hkey
 obtain ⟨es',hget,hrel⟩:∃es':Array MapEntry,(match m' with
   | .map none=>pure #[]
   | .map (some r)=>do
    let .map es _ ←getObj r | stuck "Lookup: map expected"
    pure es
   | _=>stuck "Lookup: map expected" :Sem (Array MapEntry)).run P w=.ok es' w/\MRel (Mut mo own) own w es.1 es'.toList:=by
  rcases aC5 h.sr m es hm m' hx with ⟨_,rfl,rfl⟩ | ⟨id,b,es',_,rfl,_,_,hb,hrel,_⟩
  ·exact ⟨#[],rfl,rfl,fun j k v e hj=>by simp at hj⟩
  ·exact ⟨es',by simp [getObj,Sem.run,hb],hrel⟩
 obtain ⟨r',f1,f2⟩:=bk3 c2 es.1 es'.toList 0 hrel r hr
 have hfind:(Instr.findKey kt key' es'.toList).run P w=.ok r' w:=c2.find _ _ f1
 have hzero:(zeroValue e).run P w=.ok zv w:=by simp [zeroValue,typeInfo,hi,hiz]
 have hmain:∀(x:Value) (b:Bool),((match r' with | some (_,v)=>pure (v,true) | none=>do pure (←zeroValue e,false):Sem (Value×Bool)).run P w=.ok (x,b) w) ->
   (Instr.lookup t m' key' ok).run P w=.ok (if ok then .tuple #[x,.bool b] else x) w:=by
  intro x b hxb
  unfold Instr.lookup
  rw [ab3 (run_underlying ht w)]
  have hck:=c1 es'.isEmpty 9998
  rcases aC5 h.sr m es hm m' hx with ⟨_,rfl,rfl⟩ | ⟨id,bb,es2,_,rfl,_,_,hb,_,_⟩
  ·simp [] at hget
   subst hget
   refine (ab3 hck).trans ?_
   refine (ab3 hfind).trans ?_
   cases r' with
   | none=>simp [hzero] at hxb ⊢;simp [hxb]<;>(split<;>rfl)
   | some p=>simp [] at hxb ⊢;simp [hxb]<;>(split<;>rfl)
  ·have he2:es2=es':=by simp [getObj,Sem.run,hb] at hget;exact hget
   subst he2
   refine (ab3 (w1:=w) (r:=Obj.map es2 es.2) (by simp [getObj,Sem.run,hb])).trans ?_
   refine (ab3 hck).trans ?_
   refine (ab3 hfind).trans ?_
   cases r' with
   | none=>simp [hzero] at hxb ⊢;simp [hxb]<;>(split<;>rfl)
   | some p=>simp [] at hxb ⊢;simp [hxb]<;>(split<;>rfl)
 have hfinal:∀(v:V) (x:Value) (b:Bool),VRel (Mut mo own) own.rho w v x->XRel (Mut mo own) own w (if ok then .tup [v,.bool b] else v) (if ok then .tuple #[x,.bool b] else x):=by
  intro v x b hv
  cases ok with
  | false=>exact XRel.of hv
  | true=>
   refine XRel.of (.tup _ _ rfl fun j p q hp hq=>?_)
   match j with
   | 0=>simp at hp hq;subst hp;subst hq;exact hv
   | 1=>simp at hp hq;subst hp;subst hq;exact .bool b
   | j+2=>simp at hp
 cases r with
 | none=>
  cases r' with
  | some _=>exact f2.elim
  | none=>exact ⟨_,hmain zv false (by simp [hzero]),hfinal _ _ _ hzv⟩
 | some v=>
  cases r' with
  | none=>exact f2.elim
  | some p=>exact ⟨_,hmain p.2 true rfl,hfinal _ _ _ f2⟩
theorem FR.bj1 (h:FR P H mo acc w0 own st a w){id b:Nat}(hid:id<st.s.length)(hown:own (.obj id)=some (b,0,1)){old:Array MapEntry}{c0:Nat}(hheap:w.heap[b]? =some (.map old c0))(hsp:∀cs,st.s[id]? ≠some (.box cs))(es:List (V×V))(c:Nat)(es':Array MapEntry)
  (hrel:MRel (Mut mo own) own w es es'.toList) (hcl:c=es.length):FR P H mo acc w0 own {st with s:=st.s.set id (.map es c)} a {w with heap:=w.heap.setIfInBounds b (.map es' c)}:=by
 have hlt:b<w.heap.size:=(Array.getElem?_eq_some_iff.1 hheap).1
 have hother:∀b2,b2≠b->(w.heap.setIfInBounds b (.map es' c))[b2]? =w.heap[b2]? :=by
  intro b2 hb2
  rw [Array.getElem?_setIfInBounds,if_neg (fun e=>hb2 e.symm)]
 have hcell:∀b2 x v,w.cell? ⟨b2,x,none⟩=some v->({w with heap:=w.heap.setIfInBounds b (.map es' c)}:World).cell? ⟨b2,x,none⟩=some v:=by
  intro b2 x v hv
  by_cases e:b2=b
  ·subst e;simp [World.cell?,hheap] at hv
  ·simp only [World.cell?,hother b2 e];exact hv
 have p:Post mo own w own {w with heap:=w.heap.setIfInBounds b (.map es' c)} (·=.obj id):={
  keep:=⟨rfl,rfl,rfl,by simp,fun b2 hb2 hn=>hother b2 fun e=>by
   subst e;exact hn 0 ⟨_,_,hown,rfl,Nat.le_refl _,Nat.zero_lt_one⟩,fun b2 x v hv _=>hcell b2 x v hv⟩
  sub:=fun _ _ e=>.inl e
  subB:=fun k r l e=>.inl ⟨k,r,l,e,rfl⟩
  rho:=fun _ _ e=>e
  same:=fun k r hk hT=>⟨hk,fun l=>hother r.1 fun e=>hT (h.sr.base.inj _ _ _ _ l rfl hk hown e)⟩
  new:=fun _ _ e=>e
  base:=⟨h.sr.base.inj,h.sr.base.gone,fun k r e=>by have:=h.sr.base.lt k r e;simpa using this,h.sr.base.off,fun k r e hr=>by
   obtain ⟨r1,cs,T,r2,r3⟩:=h.sr.base.room k r e hr
   refine ⟨r1,cs,T,?_,r3⟩
   show (w.heap.setIfInBounds b (.map es' c))[r.1]? =_
   rw [hother r.1 fun e2=>?_]
   ·exact r2
   ·rw [e2,hheap] at r2;cases r2⟩}
 refine h.post p rfl rfl (Nat.le_refl _) (fun g _ hm=>⟨hm,by simp⟩) h.tokLt h.newTok (fun _ _ e=>e) (fun i box hb=>.inl ⟨hb,by simp⟩) h.newLoc ?_ (fun i hi=>h.sr.newObj i (by simpa using hi)) ?_
 ·intro i o ho
  rw [List.getElem?_set] at ho
  by_cases e:id=i
  ·subst e
   rw [if_pos rfl,if_pos hid] at ho
   injection ho with ho
   subst ho
   refine .inr ⟨b,es',hown,?_,⟨by have:=hrel.1;simpa using this,hcl⟩,fun j k v e hj he=>?_⟩
   ·show (w.heap.setIfInBounds b (.map es' c))[b]? =_
    rw [Array.getElem?_setIfInBounds,if_pos rfl,if_pos hlt]
   ·obtain ⟨z1,z2,z3⟩:=hrel.2 j k v e hj (by simpa using he)
    exact ⟨p.stay.v z1,p.stay.v z2,z3.1,by simpa using z3.2⟩
  ·rw [if_neg e] at ho
   exact .inl ⟨ho,by simp;omega,by simp⟩
 ·intro i off r e
  obtain ⟨cs,v,e1,e2⟩:=h.sr.spare i off r e
  by_cases q:id=i
  ·subst q;exact absurd e1 (hsp cs)
  ·exact ⟨cs,v,by rw [List.getElem?_set,if_neg q];exact e1,e2⟩
theorem bu7 {M:Nat->Nat->Prop}{kt:TypeId}{key val:V}{key' val':Value}{F:List MapEntry->Nat->Option (Nat×Value)->Prop}(hs:bh9 P M own w kt key key' F)(hk:VRel M own.rho w key key')(hno:aj2 key=true)(hv:VRel M own.rho w val val'):
  ∀(es:List (V×V)) (es':List MapEntry) (i:Nat),MRel M own w es es' i->∀(r:List (V×V)),putV key val es=some r ->
   (∃j e0,F es' i (some (i+j,e0.val))/\r.length=es.length/\es'[j]? =some e0/\posV key es=some j/\(∃k0,VRel M own.rho w k0 e0.key/\az1 key k0=some true)/\MRel M own w r (es'.set j {e0 with key:=key',val:=val'}) i) ∨
   (F es' i none/\r.length=es.length+1/\posV key es=some es.length/\MRel M own w r (es'++[{key:=key',val:=val',born:=i+es'.length}]) i)
 | [],es',i,h,r,hr=>by
  have:es'=[]:=List.eq_nil_of_length_eq_zero (by simpa using h.1)
  subst this
  simp [putV] at hr
  subst hr
  refine .inr ⟨hs.nil i,rfl,rfl,⟨rfl,fun j k v e hj he=>?_⟩⟩
  cases j with
  | zero=>simp at hj he;obtain ⟨e1,e2⟩:=hj;subst he;rw [←e1,←e2];exact ⟨hk,hv,hno,rfl⟩
  | succ j=>simp at hj
 | (k,v)::t,[],_,h,_,_=>by have:=h.1;simp at this
 | (k,v)::t,e::t',i,h,r,hr=>by
  obtain ⟨⟨h1,h2,h3⟩,h4⟩:=h.tail
  rw [putV] at hr
  obtain ⟨b,hb,hr⟩:=Option.bind_eq_some_iff.1 hr
  cases b with
  | true=>
   simp only [cond_true,Option.some.injEq] at hr
   subst hr
   refine .inl ⟨0,e,hs.hit k e t' i h1 hb,rfl,rfl,by simp [posV,hb],⟨k,h1,hb⟩,⟨by have:=h.1;simpa using this,fun j k2 v2 e2 hj he=>?_⟩⟩
   cases j with
   | zero=>simp at hj he;obtain ⟨rfl,rfl⟩:=hj;subst he;exact ⟨hk,hv,hno,h3.2⟩
   | succ j=>simp at hj he;rw [show i+(j+1)=i+1+j by omega];exact h4.2 j k2 v2 e2 hj he
  | false=>
   simp only [cond_false] at hr
   obtain ⟨r2,hr2,rfl⟩:=Option.map_eq_some_iff.1 hr
   rcases bu7 hs hk hno hv t t' (i+1) h4 r2 hr2 with ⟨j,e0,q1,q2,q3,q0,q4,q5⟩ | ⟨q1,q2,q0,q3⟩
   ·refine .inl ⟨j+1,e0,hs.miss k e t' i _ h1 hb (by rw [show i+(j+1)=i+1+j by omega];exact q1),by simp [q2],by simpa using q3,by simp [posV,hb,q0],q4,⟨by have:=q5.1;simpa using this,fun j2 k2 v2 e2 hj he=>?_⟩⟩
    cases j2 with
    | zero=>simp at hj he;obtain ⟨rfl,rfl⟩:=hj;subst he;exact ⟨h1,h2,h3⟩
    | succ j2=>simp at hj he;rw [show i+(j2+1)=i+1+j2 by omega];exact q5.2 j2 k2 v2 e2 hj (by simpa using he)
   ·refine .inr ⟨hs.miss k e t' i _ h1 hb q1,by simp [q2],by simp [posV,hb,q0],⟨by have:=q3.1;simpa using this,fun j2 k2 v2 e2 hj he=>?_⟩⟩
    cases j2 with
    | zero=>simp at hj he;obtain ⟨rfl,rfl⟩:=hj;subst he;exact ⟨h1,h2,h3⟩
    | succ j2=>simp at hj;rw [show i+(j2+1)=i+1+j2 by omega];refine q3.2 j2 k2 v2 e2 hj ?_;rw [←he,List.cons_append,List.getElem?_cons_succ,List.length_cons,show i+(t'.length+1)=i+1+t'.length by omega]
theorem bj3 {key val:V}:∀{es r:List (V×V)} {i:Nat},putV key val es=some r->posV key es=some i->r[i]? =some (key,val)
 | [],r,i,hr,hi=>by
  simp only [putV,Option.some.injEq] at hr
  simp only [posV,Option.some.injEq] at hi
  subst hr;subst hi
  rfl
 | (k,v)::t,r,i,hr,hi=>by
  rw [putV] at hr
  rw [posV] at hi
  obtain ⟨b,hb,hr⟩:=Option.bind_eq_some_iff.1 hr
  rw [hb] at hi
  cases b with
  | true=>
   simp only [cond_true,Option.some.injEq,Option.bind_some] at hr hi
   subst hr;subst hi
   rfl
  | false=>
   simp only [cond_false,Option.bind_some] at hr hi
   obtain ⟨r2,hr2,rfl⟩:=Option.map_eq_some_iff.1 hr
   obtain ⟨i2,hi2,rfl⟩:=Option.map_eq_some_iff.1 hi
   rw [List.getElem?_cons_succ]
   exact bj3 hr2 hi2
theorem aV2 (es':Array MapEntry)(j:Nat)(f:MapEntry->MapEntry)(e0:MapEntry)(hj:es'[j]? =some e0):(es'.modify j f).toList=es'.toList.set j (f e0):=by
 apply List.ext_getElem?
 intro j2
 rw [Array.getElem?_toList,Array.getElem?_modify,List.getElem?_set]
 by_cases ej:j=j2
 ·subst ej
  rw [if_pos rfl,if_pos rfl,hj,if_pos (by have:=(Array.getElem?_eq_some_iff.1 hj).1;simpa using this)]
  rfl
 ·rw [if_neg ej,if_neg ej,Array.getElem?_toList]
theorem bt0 {es':Array MapEntry}{j:Nat}{e0:MapEntry}(hj:es'[j]? =some e0){key':Value}(h:Instr.sameBits 10000 e0.key key'=true):(Instr.keyThatStays (((es'[j]?).map (·.key)).getD key') key').run P w=.ok key' w:=by
 unfold Instr.keyThatStays
 rw [hj]
 simp only [Option.map_some,Option.getD_some]
 rw [if_pos h]
 rfl
theorem mapUpdate_run (h:FR P H mo acc w0 own st a w)(t kt e:TypeId)(ht:P.underlying t=some (.map kt e))(id:Nat)(key val:V)(hk:aN7 P kt key=true)(es:List (V×V)×Nat)(hm:mapOf st (.map id)=some es)(r:List (V×V))(hr:putV key val es.1=some r)
  (m' key' val':Value) (hx:XRel (Mut mo own) own w (.map id) m') (hkey:XRel (Mut mo own) own w key key') (hval:VRel (Mut mo own) own.rho w val val'):
  ∃w',(Instr.mapUpdate t m' key' val').run P w=.ok () w'/\FR P H mo acc w0 own {st with s:=st.s.set id (.map r (if r.length=es.1.length then es.2 else es.2+1))} a w':=by
 obtain ⟨F,c1,c2,c3,c4,c5⟩:=bj8 hk hkey
 rcases aC5 h.sr _ es hm m' hx with ⟨q,_,_⟩ | ⟨id2,b,es',q,rfl,hown,hs,hb,hrel,hcl⟩
 ·cases q
 ·injection q with q
  subst q
  have hget:(getObj b).run P w=.ok (.map es' es.2) w:=by simp [getObj,Sem.run,hb]
  have hid:id<st.s.length:=(List.getElem?_eq_some_iff.1 hs).1
  rcases bu7 c2 c3 c4 hval es.1 es'.toList 0 hrel r hr with ⟨j,e0,q1,q2,q3,_,⟨k0,q6,q7⟩,q5⟩ | ⟨q1,q2,_,q3⟩
  ·have hfind:(Instr.findKey kt key' es'.toList).run P w=.ok (some (j,e0.val)) w:=by
    rw [Nat.zero_add] at q1
    exact c2.find _ _ q1
   have hj:es'[j]? =some e0:=by simpa using q3
   have hstay:=bt0 (P:=P) (w:=w) hj (c5 k0 e0.key 9998 q6 q7)
   have hmod:=aV2 es' j (fun e=>{e with key:=key',val:=val'}) e0 hj
   refine ⟨{w with heap:=w.heap.setIfInBounds b (.map (es'.modify j fun e=>{e with key:=key',val:=val'}) es.2)},?_,?_⟩
   ·unfold Instr.mapUpdate
    refine (ab3 (run_underlying ht w)).trans ?_
    refine (ab3 hget).trans ?_
    refine (ab3 (c1 false 9998)).trans ?_
    refine (ab3 hfind).trans ?_
    refine (ab3 hstay).trans ?_
    simp [setObj,Sem.run,hb]
   ·rw [if_pos q2]
    exact h.bj1 hid hown hb (by rw [hs];simp) r es.2 _ (by rw [hmod];exact q5) (by rw [q2];exact hcl)
  ·have hfind:(Instr.findKey kt key' es'.toList).run P w=.ok none w:=c2.find _ _ q1
   refine ⟨{w with heap:=w.heap.setIfInBounds b (.map (es'.push {key:=key',val:=val',born:=es.2}) (es.2+1))},?_,?_⟩
   ·unfold Instr.mapUpdate
    refine (ab3 (run_underlying ht w)).trans ?_
    refine (ab3 hget).trans ?_
    refine (ab3 (c1 false 9998)).trans ?_
    refine (ab3 hfind).trans ?_
    simp [setObj,Sem.run,hb]
   ·rw [if_neg (by omega)]
    have hb2:es.2=0+es'.toList.length:=by rw [hcl,hrel.1,Nat.zero_add]
    exact h.bj1 hid hown hb (by rw [hs];simp) r _ _ (by rw [Array.toList_push,hb2];exact q3) (by rw [q2,hcl])
theorem mapEntry_run (h:FR P H mo acc w0 own st a w)(t kt e:TypeId)(ht:P.underlying t=some (.map kt e))(id:Nat)(key:V)(hk:aN7 P kt key=true)(es:List (V×V)×Nat)(hm:mapOf st (.map id)=some es)(z:V)(hz:zeroV P e=some z)(hgz:z≠.undef)
  (f:Option V) (hf:aB1 key es.1=some f) (r:List (V×V)) (hr:putV key (f.getD z) es.1=some r) (i:Nat) (hi:posV key es.1=some i) (m' key':Value) (hx:XRel (Mut mo own) own w (.map id) m') (hkey:XRel (Mut mo own) own w key key'):
  ∃x w',(Instr.mapEntry t m' key').run P w=.ok (.tuple #[x,.int .i64 i]) w'/\FR P H mo acc w0 own {st with s:=st.s.set id (.map r (if r.length=es.1.length then es.2 else es.2+1))} a w'/\VRel (Mut mo own) own.rho w' (f.getD z) x:=by
 obtain ⟨F,c1,c2,c3,c4,c5⟩:=bj8 hk hkey
 obtain ⟨iz,zv,hiz1,hiz,rfl⟩:=an4 hz
 have hzv:=zero_rel (mo:=mo) (own:=own) (w:=w) (e:=e) hgz
 have hzero:(zeroValue e).run P w=.ok zv w:=by simp [zeroValue,typeInfo,hiz1,hiz]
 rcases aC5 h.sr _ es hm m' hx with ⟨q,_,_⟩ | ⟨id2,b,es',q,rfl,hown,hs,hb,hrel,hcl⟩
 ·cases q
 ·injection q with q
  subst q
  have hget:(getObj b).run P w=.ok (.map es' es.2) w:=by simp [getObj,Sem.run,hb]
  have hid:id<st.s.length:=(List.getElem?_eq_some_iff.1 hs).1
  obtain ⟨r',f1,f2⟩:=bk3 c2 es.1 es'.toList 0 hrel f hf
  have hfind:=c2.find _ _ f1
  obtain ⟨x,hxr,hrx⟩:∃x,VRel (Mut mo own) own.rho w (f.getD (ofConst zv)) x/\(match r' with | some p=>x=p.2 | none=>x=zv):=by
   cases f with
   | none=>cases r' with
    | none=>exact ⟨zv,hzv,rfl⟩
    | some _=>exact f2.elim
   | some v=>cases r' with
    | none=>exact f2.elim
    | some p=>exact ⟨p.2,f2,rfl⟩
  rcases bu7 c2 c3 c4 hxr es.1 es'.toList 0 hrel r hr with ⟨j,e0,q1,q2,q3,q8,⟨k0,q6,q7⟩,q5⟩ | ⟨q1,q2,q8,q3⟩
  ·have hfind2:(Instr.findKey kt key' es'.toList).run P w=.ok (some (j,e0.val)) w:=by
    rw [Nat.zero_add] at q1
    exact c2.find _ _ q1
   have er:r'=some (j,e0.val):=by
    rw [hfind2] at hfind
    injection hfind with e _
    exact e.symm
   subst er
   have hxe:x=e0.val:=hrx
   subst hxe
   have hij:i=j:=by rw [hi] at q8;injection q8
   subst hij
   have hj:es'[i]? =some e0:=by simpa using q3
   have hborn:e0.born=i:=by
    cases hk0:es.1[i]? with
    | none=>
     have h1:=List.getElem?_eq_none_iff.1 hk0
     have h2:=(List.getElem?_eq_some_iff.1 q3).1
     have:=hrel.1
     omega
    | some kv=>have:=(hrel.2 i kv.1 kv.2 e0 hk0 q3).2.2.2;rw [this,Nat.zero_add]
   have hstay:=bt0 (P:=P) (w:=w) hj (c5 k0 e0.key 9998 q6 q7)
   have hmod:=aV2 es' i (fun e=>{e with key:=key'}) e0 hj
   have hfr:=h.bj1 hid hown hb (by rw [hs];simp) r es.2 (es'.modify i fun e=>{e with key:=key'}) (by rw [hmod];exact q5) (by rw [q2];exact hcl)
   refine ⟨e0.val,{w with heap:=w.heap.setIfInBounds b (.map (es'.modify i fun e=>{e with key:=key'}) es.2)},?_,?_,?_⟩
   ·unfold Instr.mapEntry
    refine (ab3 (run_underlying ht w)).trans ?_
    refine (ab3 hget).trans ?_
    refine (ab3 (c1 false 9998)).trans ?_
    refine (ab3 hfind2).trans ?_
    refine (ab3 hstay).trans ?_
    simp [setObj,Sem.run,hb,hj,goInt,hborn]
   ·rw [if_pos q2];exact hfr
   ·obtain ⟨b2,es2,g1,g2,g3,g4⟩:=hfr.sr.objs id (.map r es.2) (by rw [List.getElem?_set,if_pos rfl,if_pos hid])
    rw [hown] at g1
    injection g1 with g1
    injection g1 with g1 _
    subst g1
    have hlt:=(Array.getElem?_eq_some_iff.1 hb).1
    simp only [Array.getElem?_setIfInBounds,if_true,hlt] at g2
    injection g2 with g2
    injection g2 with g2 _
    subst g2
    obtain ⟨hat,_⟩:r[i]? =some (key,f.getD (ofConst zv))/\True:=⟨bj3 hr hi,trivial⟩
    exact (g4 i key _ {e0 with key:=key'} hat (by rw [Array.getElem?_modify,if_pos rfl,hj];rfl)).2.1
  ·have hfind2:(Instr.findKey kt key' es'.toList).run P w=.ok none w:=c2.find _ _ q1
   have er:r'=none:=by
    rw [hfind2] at hfind
    injection hfind with e _
    exact e.symm
   subst er
   have hxe:x=zv:=hrx
   subst hxe
   have hij:i=es.1.length:=by rw [hi] at q8;injection q8
   have hb2:es.2=0+es'.toList.length:=by rw [hcl,hrel.1,Nat.zero_add]
   have hfr:=h.bj1 hid hown hb (by rw [hs];simp) r (es.2+1) (es'.push {key:=key',val:=x,born:=es.2}) (by rw [Array.toList_push,hb2];exact q3) (by rw [q2,hcl])
   refine ⟨x,{w with heap:=w.heap.setIfInBounds b (.map (es'.push {key:=key',val:=x,born:=es.2}) (es.2+1))},?_,?_,?_⟩
   ·unfold Instr.mapEntry
    refine (ab3 (run_underlying ht w)).trans ?_
    refine (ab3 hget).trans ?_
    refine (ab3 (c1 false 9998)).trans ?_
    refine (ab3 hfind2).trans ?_
    refine (ab3 hzero).trans ?_
    simp [setObj,Sem.run,hb,goInt,hij,hcl]
   ·rw [if_neg (by omega)];exact hfr
   ·obtain ⟨b2,es2,g1,g2,g3,g4⟩:=hfr.sr.objs id (.map r (es.2+1)) (by rw [List.getElem?_set,if_pos rfl,if_pos hid])
    rw [hown] at g1
    injection g1 with g1
    injection g1 with g1 _
    subst g1
    have hlt:=(Array.getElem?_eq_some_iff.1 hb).1
    simp only [Array.getElem?_setIfInBounds,if_true,hlt] at g2
    injection g2 with g2
    injection g2 with g2 _
    subst g2
    have hsz:es'.size=i:=by rw [hij];have:=hrel.1;simpa using this
    exact (g4 i key _ _ (bj3 hr hi) (by rw [Array.getElem?_push,if_pos hsz.symm])).2.1
theorem entryStore_run (h:FR P H mo acc w0 own st a w)(t:TypeId)(id:Nat)(val:V)(es:List (V×V)×Nat)(hm:mapOf st (.map id)=some es)(n:Nat)(kv:V×V)(hn:es.1[n]? =some kv)
  (m' val':Value) (hx:XRel (Mut mo own) own w (.map id) m') (hval:VRel (Mut mo own) own.rho w val val'):
  ∃w',(Instr.entryStore t m' (.int .i64 n) val').run P w=.ok () w'/\FR P H mo acc w0 own {st with s:=st.s.set id (.map (es.1.set n (kv.1,val)) es.2)} a w':=by
 rcases aC5 h.sr _ es hm m' hx with ⟨q,_,_⟩ | ⟨id2,b,es',q,rfl,hown,hs,hb,hrel,hcl⟩
 ·cases q
 ·injection q with q
  subst q
  have hget:(getObj b).run P w=.ok (.map es' es.2) w:=by simp [getObj,Sem.run,hb]
  have hid:id<st.s.length:=(List.getElem?_eq_some_iff.1 hs).1
  have hlen:es'.size=es.1.length:=by have:=hrel.1;simpa using this
  have hlt:n<es'.size:=by rw [hlen];exact (List.getElem?_eq_some_iff.1 hn).1
  have hborn:∀(j:Nat) (hj:j<es'.size),es'[j].born=j:=by
   intro j hj
   have hj2:j<es.1.length:=by omega
   have:=(hrel.2 j es.1[j].1 es.1[j].2 es'[j] (List.getElem?_eq_getElem hj2) (by simp [hj])).2.2.2
   simpa using this
  have hidx:es'.findIdx? (fun e=>((e.born:Int)==(n:Int)))=some n:=by
   rw [Array.findIdx?_eq_some_iff_getElem]
   refine ⟨hlt,by rw [hborn n hlt];simp,fun j hj=>?_⟩
   rw [hborn j (by omega)]
   simp
   omega
  have hmod:=aV2 es' n (fun e=>{e with val:=val'}) es'[n] (by simp [hlt])
  refine ⟨{w with heap:=w.heap.setIfInBounds b (.map (es'.modify n fun e=>{e with val:=val'}) es.2)},?_,?_⟩
  ·unfold Instr.entryStore
   simp only []
   refine (ab3 hget).trans ?_
   refine (ab3 (w1:=w) (r:=(n:Int)) (by simp [asInt,asIntOf])).trans ?_
   rw [hidx]
   simp [setObj,Sem.run,hb]
  ·refine h.bj1 hid hown hb (by rw [hs];simp) _ es.2 _ ?_ (by rw [List.length_set];exact hcl)
   rw [hmod]
   refine ⟨by simp [hlen],fun j k v e2 hj he=>?_⟩
   rw [List.getElem?_set] at hj he
   by_cases ej:n=j
   ·subst ej
    have hlt2:=(List.getElem?_eq_some_iff.1 hn).1
    rw [if_pos rfl,if_pos hlt2] at hj
    rw [if_pos rfl,if_pos (by simpa using hlt)] at he
    simp only [Option.some.injEq] at hj he
    injection hj with e1 e2
    subst he;subst e1;subst e2
    obtain ⟨z1,z2,z3,z4⟩:=hrel.2 n kv.1 kv.2 es'[n] hn (by simp [hlt])
    exact ⟨z1,hval,z3,z4⟩
   ·rw [if_neg ej] at hj he
    exact hrel.2 j k v e2 hj he
end
end Go.Proofs.YtnpjififnhjbbaaDoor.E
namespace Go.Proofs.YtnpjififnhjbbaaDoor.E
open Go
theorem aK9 (K:Nat):∀(n:Nat) (cs:List V),(chunks K n cs).length=n
 | 0,_=>rfl
 | n+1,cs=>by simp [chunks,aK9 K n]
theorem br0 (K:Nat)(hK:0<K):∀(n:Nat) (cs:List V),n*K<=cs.length->(∀v∈cs,v.good=true)->∀(i:Nat) (e:V),(chunks K n cs)[i]? =some e->e.cells=(cs.drop (i*K)).take K
 | 0,cs,_,_,i,e,h=>by simp [chunks] at h
 | n+1,cs,hl,hg,0,e,h=>by
  rw [Nat.add_mul] at hl
  simp only [chunks,List.getElem?_cons_zero,Option.some.injEq] at h
  subst h
  simp only [Nat.zero_mul,List.drop_zero]
  by_cases h1:K=1
  ·subst h1
   cases cs with
   | nil=>simp at hl
   | cons v r=>simp [aq0 (hg v (by simp))]
  ·rw [show (K==1)=false by simpa using h1];rfl
 | n+1,cs,hl,hg,i+1,e,h=>by
  rw [Nat.add_mul] at hl
  simp only [chunks,List.getElem?_cons_succ] at h
  rw [br0 K hK n (cs.drop K) (by simp;omega) (fun v hv=>hg v (List.mem_of_mem_drop hv)) i e h,List.drop_drop]
  congr 2
  rw [Nat.add_mul];omega
theorem aP5 {K:Nat}:∀(xs:List V),(∀e∈xs,e.cells.length=K)->(xs.flatMap V.cells).length=xs.length*K
 | [],_=>by simp
 | x::r,h=>by
  rw [List.flatMap_cons,List.length_append,aP5 r fun e he=>h e (List.mem_cons_of_mem _ he),h x (by simp),List.length_cons,Nat.add_mul]
  omega
theorem flat_get {K:Nat}:∀(xs:List V),(∀e∈xs,e.cells.length=K)->∀(p:Nat) (v:V),(xs.flatMap V.cells)[p]? =some v->∃i e j,p=i*K+j/\xs[i]? =some e/\e.cells[j]? =some v
 | [],_,p,v,hv=>by simp at hv
 | x::r,h,p,v,hv=>by
  rw [List.flatMap_cons] at hv
  by_cases hp:p<x.cells.length
  ·rw [List.getElem?_append_left hp] at hv
   exact ⟨0,x,p,by simp,rfl,hv⟩
  ·rw [List.getElem?_append_right (by omega)] at hv
   obtain ⟨i,e,j,q1,q2,q3⟩:=flat_get r (fun e he=>h e (List.mem_cons_of_mem _ he)) _ v hv
   refine ⟨i+1,e,j,?_,q2,q3⟩
   have:=h x (by simp)
   rw [Nat.add_mul];omega
section
variable {P:Program} {H:ae2} {mo:Nat->Nat->Prop} {acc:Own} {w0:World} {own:Own} {st:St} {a:Act} {w:World}
theorem held_box {s:List O}(h:SR P mo own s w){id off k n:Nat}{box:List (V×Bool)}(hb:s[id]? =some (.box box))(hle:off+n*k<=box.length)(hk:0<k):
  ∃b cs T,own (.obj id)=some (b,0,cs.size)/\w.heap[b]? =some (.cells cs T (0,0))/\box.length<=cs.size/\(∀e∈chunks k n ((box.drop off).map (·.1)),e.cells.length=k/\ac5 e.cells=true) /\
   ∀(i:Nat) (e:V) (j:Nat) (x:V),(chunks k n ((box.drop off).map (·.1)))[i]? =some e->e.cells[j]? =some x->off+i*k+j<off+n*k/\w.cell? ⟨b,off+i*k+j,none⟩=some (cs.getD (off+i*k+j) undef)/\VRel (Mut mo own) own.rho w x (cs.getD (off+i*k+j) undef):=by
 obtain ⟨b,cs,T,g1,g2,g3,g4⟩:=ar2 h hb
 have hgood:∀v∈(box.drop off).map (·.1),v.good=true:=by
  intro v hv
  obtain ⟨p,hp,rfl⟩:=List.mem_map.1 hv
  obtain ⟨j,hj⟩:=List.getElem?_of_mem hp
  rw [List.getElem?_drop] at hj
  exact (g4 _ p.1 p.2 hj).2.1
 have hl:n*k<=((box.drop off).map (·.1)).length:=by simp;omega
 have key:=br0 k hk n _ hl hgood
 have hlen:∀(i:Nat) (e:V),(chunks k n ((box.drop off).map (·.1)))[i]? =some e->i<n/\e.cells.length=k:=by
  intro i e he
  have hi:i<n:=by have:=(List.getElem?_eq_some_iff.1 he).1;rwa [aK9] at this
  refine ⟨hi,?_⟩
  rw [key i e he]
  have:=ay1 (i:=i) (k:=k) (j:=k-1) hi (by omega)
  simp at hl ⊢;omega
 refine ⟨b,cs,T,g1,g2,g3,fun e he=>?_,fun i e j x he hx=>?_⟩
 ·obtain ⟨i,hi⟩:=List.getElem?_of_mem he
  refine ⟨(hlen i e hi).2,az6 _ fun v hv=>?_⟩
  rw [key i e hi] at hv
  exact hgood v (List.mem_of_mem_drop (List.mem_of_mem_take hv))
 ·obtain ⟨hi,hl2⟩:=hlen i e he
  have hj:j<k:=by rw [←hl2];exact (List.getElem?_eq_some_iff.1 hx).1
  have hlt:=ay1 hi hj
  rw [key i e he,List.getElem?_take,if_pos hj,List.getElem?_drop,List.getElem?_map] at hx
  obtain ⟨p,hp,rfl⟩:=Option.map_eq_some_iff.1 hx
  rw [List.getElem?_drop] at hp
  rw [show off+(i*k+j)=off+i*k+j by omega] at hp
  obtain ⟨r1,r2,r3,r4⟩:=g4 _ p.1 p.2 hp
  exact ⟨by omega,r1,r3⟩
theorem aW8 (h:SR P mo own st.s w){K:Nat}(hK:0<K)(x:V)(xs:List V)(hs:srcS st K x=some xs)(x':Value)(hx:XRel (Mut mo own) own w x x'):
  (Builtin.lenOf x').run P w=.ok xs.length w/\(∀e∈xs,e.cells.length=K/\ac5 e.cells=true)/\∀w2:World,w2.heap=w.heap ->
   ∃nv:Array Value,(Builtin.firstCells K xs.length x').run P w2=.ok nv w2/\nv.size=xs.length*K/\(∀(i:Nat) (e:V) (j:Nat) (x:V),xs[i]? =some e->e.cells[j]? =some x->nv[i*K+j]? =some (nv.getD (i*K+j) undef)/\VRel (Mut mo own) own.rho w x (nv.getD (i*K+j) undef)):=by
 unfold srcS at hs
 split at hs
 ·rename_i id off k n c
  have q1:=aa2 hs
  clear hs
  obtain ⟨hk,hs⟩:=q1
  have hk:k=K:=by simpa using hk
  subst hk
  unfold aT9 at hs
  split at hs
  ·rename_i box hb
   have q1:=aa2 hs
   clear hs
   obtain ⟨hle,hs⟩:=q1
   simp only [Option.some.injEq] at hs
   subst hs
   obtain ⟨b,cs,T,g1,g2,g3,g4,g5⟩:=held_box h hb (by simpa using hle) hK
   rw [aK9]
   cases hx with
   | slo _ _ _ _ _ b' m hb' hn hc hC=>
   rw [Own.aj0 g1] at hb'
   injection hb' with hb'
   injection hb' with hb' _
   subst hb'
   refine ⟨rfl,g4,fun w2 hw=>?_⟩
   have hle2:off+n*k<=box.length:=by simpa using hle
   have hl:=run_loadCells (P:=P) w2 ⟨b,off,none⟩ (n*k) (fun p=>cs.getD (off+p) undef) (fun p hp=>by
    rw [an1]
    have:w2.cell? ⟨b,off+p,none⟩=w.cell? ⟨b,off+p,none⟩:=by simp only [World.cell?,hw]
    rw [this,cell_of_heap g2,Array.getD_eq_getD_getElem?,Array.getElem?_eq_getElem (show off+p<cs.size by omega)]
    rfl)
   refine ⟨_,hl,by simp,fun i e j x he hx=>?_⟩
   obtain ⟨q1,q2,q3⟩:=g5 i e j x he hx
   have e3:((List.range (n*k)).map fun p=>cs.getD (off+p) undef).toArray[i*k+j]? =some (cs.getD (off+i*k+j) undef):=by
    simp [List.getElem?_map,List.getElem?_range (show i*k+j<n*k by omega),Nat.add_assoc]
   have e4:((List.range (n*k)).map fun p=>cs.getD (off+p) undef).toArray.getD (i*k+j) undef=cs.getD (off+i*k+j) undef:=by
    rw [Array.getD_eq_getD_getElem?,e3];rfl
   rw [e4]
   exact ⟨e3,q3⟩
  ·cases hs
 ·exact src_run hK x xs hs x' hx
theorem Base.ghost (h:Base mo own w)(id:Nat)(r:Reg)(h1:r.2.2<=r.2.1)(h2:r.1<w.heap.size):Base mo (own.set (.ghost id) (some r)) w:=by
 have aux:∀k' r',own.set (.ghost id) (some r) k'=some r'->(k'=.ghost id/\r'=r)∨(k'≠.ghost id/\own k'=some r'):=by
  intro k' r' e
  by_cases hk:k'=.ghost id
  ·subst hk;rw [Own.ab7] at e;injection e with e;exact .inl ⟨rfl,e.symm⟩
  ·rw [Own.ab6 _ _ hk] at e;exact .inr ⟨hk,e⟩
 refine ⟨fun k1 r1 k2 r2 l1 l2 e1 e2 e=>?_,fun i r2 e=>?_,fun k' r' e=>?_,fun k' r' b x e hx=>?_,fun k' r' e hr=>?_⟩
 ·rcases aux _ _ e1 with ⟨rfl,rfl⟩ | ⟨n1,o1⟩
  ·cases l1
  rcases aux _ _ e2 with ⟨rfl,rfl⟩ | ⟨n2,o2⟩
  ·cases l2
  exact h.inj _ _ _ _ l1 l2 o1 o2 e
 ·rcases aux _ _ e with ⟨_,rfl⟩ | ⟨n1,o1⟩
  ·exact h1
  ·exact h.gone _ _ o1
 ·rcases aux _ _ e with ⟨rfl,rfl⟩ | ⟨n1,o1⟩
  ·exact h2
  ·exact h.lt _ _ o1
 ·rcases aux _ _ e with ⟨rfl,rfl⟩ | ⟨n1,o1⟩
  ·have:=hx.2;omega
  ·exact h.off _ _ b x o1 hx
 ·rcases aux _ _ e with ⟨rfl,rfl⟩ | ⟨n1,o1⟩
  ·cases hr
  ·exact h.room _ _ o1 hr
theorem FR.freeze (h:FR P H mo acc w0 own st a w){id off k n c b m:Nat}{box:List (V×Bool)}(hb:st.s[id]? =some (.box box))(hle:off+n*k<=box.length)(hk:0<k)(hfl:∀(j:Nat) (v:V),box[j]? ≠some (v,true))
  (hx:VRel (Mut mo own) own.rho w (.slo id off k n c) (.slice (some ⟨b,off,none⟩) n m)):
  ∃own',FR P H mo acc w0 own' {st with g:=st.g+1,l:=st.g::st.l,s:=st.s.set id .gone} a w/\Stay mo own own' w w/\(∀i,own' (.loc i)=own (.loc i)) /\
   VRel (Mut mo own') own'.rho w (.list true k (chunks k n ((box.drop off).map (·.1)))) (.slice (some ⟨b,off,none⟩) n m) /\
   TRel own' (st.g::st.l) (st.g+1) (.list true k (chunks k n ((box.drop off).map (·.1)))) (.tok st.g) (.slice (some ⟨b,off,none⟩) n m):=by
 obtain ⟨b',cs,T,g1,g2,g3,g4,g5⟩:=held_box h.sr hb hle hk
 have hid:id<st.s.length:=(List.getElem?_eq_some_iff.1 hb).1
 cases hx with
 | slo _ _ _ _ _ _ _ hb' hn hc hC=>
 rw [Own.aj0 g1] at hb'
 injection hb' with hb'
 injection hb' with e1 e2
 simp only at e1 e2
 subst e1;subst e2
 have hnm:n*k<=m*k:=Nat.mul_le_mul_right k (by omega)
 have hlt:=h.sr.base.lt _ _ g1
 let own1:=own.set (.obj id) none
 let own2:=own1.set (.ghost id) (some (b',cs.size,cs.size))
 let own':=own2.set (.tok st.g) (some (b',off+n*k,off+m*k))
 have hcase:∀k2 r,own' k2=some r->(k2=.tok st.g/\r=(b',off+n*k,off+m*k))∨(k2=.ghost id/\r=(b',cs.size,cs.size))∨(k2≠.obj id/\k2≠.tok st.g/\k2≠.ghost id/\own k2=some r):=by
  intro k2 r e
  by_cases q:k2=.tok st.g
  ·subst q;rw [show own' (.tok st.g)=_ from Own.ab7 _ _ _] at e;injection e with e;exact .inl ⟨rfl,e.symm⟩
  ·rw [show own' k2=own2 k2 from Own.ab6 _ _ q] at e
   by_cases q2:k2=.ghost id
   ·subst q2;rw [show own2 (.ghost id)=_ from Own.ab7 _ _ _] at e;injection e with e;exact .inr (.inl ⟨rfl,e.symm⟩)
   ·rw [show own2 k2=own1 k2 from Own.ab6 _ _ q2] at e
    by_cases q3:k2=.obj id
    ·subst q3;rw [show own1 (.obj id)=none from Own.ab7 _ _ _] at e;cases e
    ·rw [show own1 k2=own k2 from Own.ab6 _ _ q3] at e
     exact .inr (.inr ⟨q3,q,q2,e⟩)
 have hne:∀k2,k2≠.obj id->k2≠.ghost id->k2≠.tok st.g->own' k2=own k2:=by
  intro k2 q1 q2 q3
  show own2.set (.tok st.g) _ k2=_
  rw [Own.ab6 _ _ q3]
  show own1.set (.ghost id) _ k2=_
  rw [Own.ab6 _ _ q2]
  exact Own.ab6 _ _ q1
 have ho1:own' (.obj id)=none:=by
  show own2.set (.tok st.g) _ (.obj id)=_
  rw [Own.ab6 _ _ (by simp)]
  show own1.set (.ghost id) _ (.obj id)=_
  rw [Own.ab6 _ _ (by simp)]
  exact Own.ab7 _ _ _
 have hg1:own' (.ghost id)=some (b',cs.size,cs.size):=by
  show own2.set (.tok st.g) _ (.ghost id)=_
  rw [Own.ab6 _ _ (by simp)]
  exact Own.ab7 _ _ _
 have hrho:own'.rho=own.rho:=by
  funext i
  by_cases q:i=id
  ·subst q
   rw [Own.aj0 g1]
   unfold Own.rho
   rw [ho1,hg1]
   rfl
  ·exact Own.ap7 (hne _ (by simpa using q) (by simp) (by simp)) (hne _ (by simp) (by simpa using q) (by simp))
 have hbase:Base mo own' w:=by
  refine ((h.sr.base.erase (.obj id)).ghost id (b',cs.size,cs.size) (Nat.le_refl _) hlt).add (.tok st.g) _ (fun k' r' q l e he=>?_) hlt (fun b2 x hx=>h.sr.base.off _ _ _ _ g1 ⟨hx.1,Nat.zero_le _,Nat.lt_of_lt_of_le hx.2.2 hC⟩) (fun _=>⟨by simp only;omega,cs,T,g2,hC⟩)
  have e':own' k'=some r':=by show own2.set (.tok st.g) _ k'=_;rw [Own.ab6 _ _ q];exact e
  rcases hcase k' r' e' with ⟨rfl,_⟩ | ⟨rfl,_⟩ | ⟨q1,_,_,q4⟩
  ·exact q rfl
  ·cases l
  ·exact q1 (h.sr.base.inj _ _ _ _ l rfl q4 g1 he)
 have p:Post mo own w own' w (fun k=>k=.obj id∨k=.ghost id∨k=.tok st.g):={
  keep:=Keep.refl _ _
  sub:=fun b2 x ⟨k2,r,e,hr⟩=>by
   rcases hcase k2 r e with ⟨_,rfl⟩ | ⟨_,rfl⟩ | ⟨_,_,_,q4⟩
   ·exact .inl ⟨_,_,g1,hr.1,Nat.zero_le _,Nat.lt_of_lt_of_le hr.2.2 hC⟩
   ·have:=hr.2;simp only at this;omega
   ·exact .inl ⟨k2,r,q4,hr⟩
  subB:=fun k2 r l e=>by
   rcases hcase k2 r e with ⟨_,rfl⟩ | ⟨rfl,_⟩ | ⟨_,_,_,q4⟩
   ·exact .inl ⟨_,_,rfl,g1,rfl⟩
   ·cases l
   ·exact .inl ⟨k2,r,l,q4,rfl⟩
  rho:=fun _ _ e=>by rw [hrho];exact e
  same:=fun k2 r e hT=>⟨by rw [hne k2 (fun q=>hT (.inl q)) (fun q=>hT (.inr (.inl q))) (fun q=>hT (.inr (.inr q)))];exact e,fun _=>rfl⟩
  new:=fun k2 hT e=>by rw [hne k2 (fun q=>hT (.inl q)) (fun q=>hT (.inr (.inl q))) (fun q=>hT (.inr (.inr q)))];exact e
  base:=hbase}
 refine ⟨own',h.post p rfl rfl (Nat.le_succ _) (fun g hg hm=>?_) (fun g hm=>?_) (fun g hm=>?_) (fun i r e=>by rw [hne _ (by simp) (by simp) (by simp)];exact e) (fun i box hb=>.inl ⟨hb,by simp⟩) (fun i hi=>by rw [hne _ (by simp) (by simp) (by simp)];exact h.newLoc i hi)
  (fun i o ho=>?_) (fun i hi=>?_) (fun i o2 r e=>?_),p.stay,fun i=>hne _ (by simp) (by simp) (by simp),?_,⟨by omega,fun _ k2 es2 b2 o2 n2 c2 hv hx=>?_⟩⟩
 ·rcases List.mem_cons.1 hm with e | e
  ·omega
  ·exact ⟨e,by simp;omega⟩
 ·rcases List.mem_cons.1 hm with e | e
  ·simp;omega
  ·have:=h.tokLt g e;simp;omega
 ·simp at hm
  rw [hne _ (by simp) (by simp) (by simpa using hm.1)]
  exact h.newTok g hm.2
 ·simp only at ho
  rw [List.getElem?_set] at ho
  by_cases e:id=i
  ·subst e
   rw [if_pos rfl,if_pos hid] at ho
   injection ho with ho
   subst ho
   exact .inr trivial
  ·rw [if_neg e] at ho
   exact .inl ⟨ho,by simp;omega,by simp⟩
 ·simp only [List.length_set] at hi
  rw [hne _ (by simp;omega) (by simp) (by simp),hne _ (by simp) (by simp;omega) (by simp)]
  exact h.sr.newObj i hi
 ·rw [hne _ (by simp) (by simp) (by simp)] at e
  obtain ⟨c1,v,e1,e2⟩:=h.sr.spare i o2 r e
  by_cases q:id=i
  ·subst q
   rw [hb] at e1
   injection e1 with e1
   injection e1 with e1
   subst e1
   exact absurd e2 (hfl o2 v)
  ·exact ⟨c1,v,by simp only;rw [List.getElem?_set,if_neg q];exact e1,e2⟩
 ·refine .list k _ b' off m (fun i j=>cs.getD (off+i*k+j) undef) n (aK9 _ _ _) (by omega) (fun e he=>(g4 e he).1) (fun e he=>(g4 e he).2) (fun i e j x he hx=>?_) (fun i e j x he hx=>p.stay.v (g5 i e j x he hx).2.2)
  obtain ⟨q1,q2,q3⟩:=g5 i e j x he hx
  refine ⟨q2,?_⟩
  rintro (hm | ⟨k2,r,e2,hr⟩)
  ·exact h.sr.base.off _ _ _ _ g1 ⟨rfl,Nat.zero_le _,by simp only;omega⟩ hm
  ·rcases hcase k2 r e2 with ⟨_,rfl⟩ | ⟨_,rfl⟩ | ⟨z1,_,_,z4⟩
   ·have:=hr.2.1;simp only at this;omega
   ·have:=hr.2;simp only at this;omega
   ·exact z1 (h.sr.base.inj _ _ _ _ (h.sr.base.bx5 z4 hr) rfl z4 g1 hr.1)
 ·injection hv with e1 e2 e3
  subst e2
  injection hx with f1 f2 f3
  injection f1 with f1
  injection f1 with f1 f4
  subst f1;subst f4;subst f2;subst f3
  exact .inr (Own.ab7 _ _ _)
theorem FR.plain (h:FR P H mo acc w0 own st a w){id off n:Nat}{box:List (V×Bool)}(hbox:st.s[id]? =some (.box box))(hfit:off+n<=box.length)(xs:List Value)(hxs:xs.length=n){b:Nat}{cs:Array Value}{T:TypeId}
  (g1:own (.obj id)=some (b,0,cs.size)) (g2:w.heap[b]? =some (.cells cs T (0,0))) (g3:box.length<=cs.size) (new:List V) (hnew:new.length=n) (cs':Array Value) (hs':cs'.size=cs.size)
  (hsp:∀j:Nat,cs'[j]? =if off<=j/\j<off+n then xs[j-off]? else cs[j]?)
  (hn:∀(j:Nat) (v:V) (y:Value),new[j]? =some v->xs[j]? =some y->v.good=true/\VRel (Mut mo own) own.rho w v y):
  FR P H mo acc w0 (own.clr id off n) {st with s:=st.s.set id (.box (ae3 box off (new.map fun c=>(c,nilB c))))} a (w.setRow b cs'):=by
 refine h.store hbox hfit xs hxs g1 g2 g3 (new.map fun c=>(c,nilB c)) (by simp;omega) cs' hs' hsp st.l _ (fun _=>False) (fun g hm=>⟨hm,fun q=>q⟩) (fun g hm=>?_) (fun k hk _=>?_) (fun j hj=>?_) (fun j r j1 j2 e=>?_) (fun k r e=>⟨k,fun l=>l,Own.aS8 _ _ _ _ _ _ e⟩) (h.sr.base.sub fun k r e=>Own.aS8 _ _ _ _ _ _ e) (fun j v2 fl y hj hy=>?_)
 ·show own (.tok g)=none
  exact h.newTok g hm
 ·cases k with
  | spare i j=>simp only [Own.clr];rw [if_neg];rintro ⟨rfl,_⟩;exact hk j rfl
  | _=>rfl
 ·simp only [Own.clr];rw [if_neg];exact fun q=>hj q.2
 ·simp [Own.clr,j1,j2] at e
 ·rw [List.getElem?_map] at hj
  obtain ⟨q,hq,e2⟩:=Option.map_eq_some_iff.1 hj
  injection e2 with e3 e4
  subst e3;subst e4
  obtain ⟨r1,r2⟩:=hn j q y hq hy
  exact ⟨r1,r2,fun hf=>aC2 hf _ _⟩
theorem rho_clr (id off n:Nat):(own.clr id off n).rho=own.rho:=by
 funext i;exact Own.ap7 rfl rfl
def Own.bu5 (o:Own)(id id':Nat)(g r:Reg):Own:=fun k=>match k with
 | .obj i=>if i=id then none else if i=id' then some r else o (.obj i)
 | .ghost i=>if i=id then some g else o (.ghost i)
 | .spare i j=>if i=id then none else o (.spare i j)
 | k=>o k
theorem FR.bu5 (h:FR P H mo acc w0 own st a w){id:Nat}{box:List (V×Bool)}(hbox:st.s[id]? =some (.box box)){b:Nat}{cs:Array Value}{T:TypeId}(g1:own (.obj id)=some (b,0,cs.size))(g2:w.heap[b]? =some (.cells cs T (0,0)))
  (w':World) (b':Nat) (cs':Array Value) (T':TypeId) (hcase:(b'=b/\T'=T/\cs'.size=cs.size/\w'=w.setRow b cs')∨(b'=w.heap.size/\w'=w.alloc (.cells cs' T')))
  (vs:List V) (hvs:vs.length<=cs'.size) (hrow:∀(p:Nat) (v:V),vs[p]? =some v->∃y,cs'[p]? =some y/\v.good=true/\VRel (Mut mo own) own.rho w v y):
  ∃own',FR P H mo acc w0 own' {st with s:=st.s.set id .gone++[.box (vs.map fun c=>(c,nilB c))]} a w'/\own'.rho st.s.length=some (b',cs'.size)/\∀i,own' (.loc i)=own (.loc i):=by
 have hid:id<st.s.length:=(List.getElem?_eq_some_iff.1 hbox).1
 have hlt:=h.sr.base.lt _ _ g1
 obtain ⟨hk0,hgh0⟩:=h.sr.newObj _ (Nat.le_refl st.s.length)
 obtain ⟨own',hown⟩:∃o:Own,o=own.bu5 id st.s.length (b,cs.size,cs.size) (b',0,cs'.size):=⟨_,rfl⟩
 have hob:own' (.obj st.s.length)=some (b',0,cs'.size):=by rw [hown];show (if st.s.length=id then none else if st.s.length=st.s.length then _ else _)=_;rw [if_neg (by omega),if_pos rfl]
 have hcases:∀k r,own' k=some r->(k=.obj st.s.length/\r=(b',0,cs'.size))∨(k=.ghost id/\r=(b,cs.size,cs.size))∨(k≠.obj id/\k≠.ghost id/\k≠.obj st.s.length/\(∀j,k≠.spare id j)/\own k=some r):=by
  intro k r e
  rw [hown] at e
  cases k with
  | obj i=>
   change (if i=id then none else if i=st.s.length then some (b',0,cs'.size) else own (.obj i))=some r at e
   by_cases q:i=id
   ·rw [if_pos q] at e;cases e
   ·rw [if_neg q] at e
    by_cases q2:i=st.s.length
    ·rw [if_pos q2] at e;injection e with e;exact .inl ⟨by rw [q2],e.symm⟩
    ·rw [if_neg q2] at e;exact .inr (.inr ⟨by simpa using q,by simp,by simpa using q2,by simp,e⟩)
  | ghost i=>
   change (if i=id then some (b,cs.size,cs.size) else own (.ghost i))=some r at e
   by_cases q:i=id
   ·rw [if_pos q] at e;injection e with e;exact .inr (.inl ⟨by rw [q],e.symm⟩)
   ·rw [if_neg q] at e;exact .inr (.inr ⟨by simp,by simpa using q,by simp,by simp,e⟩)
  | spare i j=>
   change (if i=id then none else own (.spare i j))=some r at e
   by_cases q:i=id
   ·rw [if_pos q] at e;cases e
   ·rw [if_neg q] at e;exact .inr (.inr ⟨by simp,by simp,by simp,fun j2=>by simp;intro z;exact absurd z q,e⟩)
  | tok g=>exact .inr (.inr ⟨by simp,by simp,by simp,by simp,e⟩)
  | loc g=>exact .inr (.inr ⟨by simp,by simp,by simp,by simp,e⟩)
 have hsame:∀k,k≠.obj id->k≠.ghost id->k≠.obj st.s.length->(∀j,k≠.spare id j)->own' k=own k:=by
  intro k q1 q2 q3 q4
  rw [hown]
  cases k with
  | obj i=>show (if i=id then none else if i=st.s.length then _ else own (.obj i))=_;rw [if_neg (by simpa using q1),if_neg (by simpa using q3)]
  | ghost i=>show (if i=id then _ else own (.ghost i))=_;rw [if_neg (by simpa using q2)]
  | spare i j=>show (if i=id then none else own (.spare i j))=_;rw [if_neg (by rintro rfl;exact q4 j rfl)]
  | tok g=>rfl
  | loc g=>rfl
 have hrho:∀i c,own.rho i=some c->own'.rho i=some c:=by
  intro i c e
  by_cases q:i=id
  ·subst q
   rw [Own.aj0 g1] at e
   injection e with e
   subst e
   have e1:own' (.obj i)=none:=by rw [hown];show (if i=i then none else _)=_;rw [if_pos rfl]
   have e2:own' (.ghost i)=some (b,cs.size,cs.size):=by rw [hown];show (if i=i then _ else _)=_;rw [if_pos rfl]
   unfold Own.rho
   rw [e1,e2]
   rfl
  ·have q2:i≠st.s.length:=by
    rintro rfl
    rw [Own.aQ7 hk0 hgh0] at e
    cases e
   rw [Own.ap7 (hsame (.obj i) (by simpa using q) (by simp) (by simpa using q2) (by simp)) (hsame (.ghost i) (by simp) (by simpa using q) (by simp) (by simp))]
   exact e
 have hfree:∀k r,k.live=true->own k=some r->r.1=b'->k=.obj id/\b'=b:=by
  intro k r l e q
  rcases hcase with ⟨rfl,_⟩ | ⟨rfl,_⟩
  ·exact ⟨h.sr.base.inj _ _ _ _ l rfl e g1 q,rfl⟩
  ·have:=h.sr.base.lt _ _ e;omega
 have hb':b'<w'.heap.size:=by
  rcases hcase with ⟨rfl,_,_,rfl⟩ | ⟨rfl,rfl⟩
  ·rw [setRow_size];exact hlt
  ·rw [size_alloc];exact Nat.lt_succ_self _
 have hsz:w.heap.size<=w'.heap.size:=by
  rcases hcase with ⟨_,_,_,rfl⟩ | ⟨_,rfl⟩
  ·rw [setRow_size];exact Nat.le_refl _
  ·rw [size_alloc];exact Nat.le_succ _
 have hheap:w'.heap[b']? =some (.cells cs' T' (0,0)):=by
  rcases hcase with ⟨rfl,rfl,_,rfl⟩ | ⟨rfl,rfl⟩
  ·exact setRow_heap w b' cs cs' T' (0,0) g2
  ·exact heap_alloc_new _
 have hother:∀b2,b2≠b'->b2<w.heap.size->w'.heap[b2]? =w.heap[b2]? :=by
  intro b2 q l
  rcases hcase with ⟨rfl,_,_,rfl⟩ | ⟨rfl,rfl⟩
  ·exact setRow_other w b' b2 cs' q
  ·exact ap2 _ l
 have hmob:∀x,x<cs'.size->¬mo b' x:=by
  intro x hx hm
  rcases hcase with ⟨rfl,_,hs,_⟩ | ⟨rfl,_⟩
  ·exact h.sr.base.off _ _ _ _ g1 ⟨rfl,Nat.zero_le _,by simp only;omega⟩ hm
  ·have:=Nat.lt_of_lt_of_le (h.mlt _ _ hm) h.keep.size;omega
 have hbase:Base mo own' w':=by
  refine ⟨fun k1 r1 k2 r2 l1 l2 e1 e2 e=>?_,fun i r e=>?_,fun k r e=>?_,fun k r b2 x e hx=>?_,fun k r e hr=>?_⟩
  ·rcases hcases _ _ e1 with ⟨rfl,rfl⟩ | ⟨rfl,_⟩ | ⟨n1,_,_,_,o1⟩
   ·rcases hcases _ _ e2 with ⟨rfl,_⟩ | ⟨rfl,_⟩ | ⟨n2,_,_,_,o2⟩
    ·rfl
    ·cases l2
    ·exact absurd (hfree _ _ l2 o2 e.symm).1 n2
   ·cases l1
   ·rcases hcases _ _ e2 with ⟨rfl,rfl⟩ | ⟨rfl,_⟩ | ⟨n2,_,_,_,o2⟩
    ·exact absurd (hfree _ _ l1 o1 e).1 n1
    ·cases l2
    ·exact h.sr.base.inj _ _ _ _ l1 l2 o1 o2 e
  ·rcases hcases _ _ e with ⟨q,_⟩ | ⟨_,rfl⟩ | ⟨_,_,_,_,o⟩
   ·cases q
   ·exact Nat.le_refl _
   ·exact h.sr.base.gone _ _ o
  ·rcases hcases _ _ e with ⟨_,rfl⟩ | ⟨_,rfl⟩ | ⟨_,_,_,_,o⟩
   ·exact hb'
   ·exact Nat.lt_of_lt_of_le hlt hsz
   ·exact Nat.lt_of_lt_of_le (h.sr.base.lt _ _ o) hsz
  ·rcases hcases _ _ e with ⟨_,rfl⟩ | ⟨_,rfl⟩ | ⟨_,_,_,_,o⟩
   ·have q1:=hx.1;have q2:=hx.2.2;simp only at q1 q2
    subst q1
    exact hmob x q2
   ·have:=hx.2;simp only at this;omega
   ·exact h.sr.base.off _ _ _ _ o hx
  ·rcases hcases _ _ e with ⟨rfl,_⟩ | ⟨rfl,_⟩ | ⟨n1,_,_,_,o⟩
   ·cases hr
   ·cases hr
   ·obtain ⟨z1,c2,T2,z2,z3⟩:=h.sr.base.room _ _ o hr
    refine ⟨z1,c2,T2,?_,z3⟩
    rw [hother _ (fun q=>n1 (hfree k r (by cases k<;>first | rfl | cases hr) o q).1) (h.sr.base.lt _ _ o)]
    exact z2
 have p:Post mo own w own' w' (fun k=>k=.obj id∨k=.ghost id∨k=.obj st.s.length∨∃j,k=.spare id j):={
  keep:=by
   rcases hcase with ⟨rfl,_,hs,rfl⟩ | ⟨_,rfl⟩
   ·exact Keep.row g2 fun x=>by
     rcases Nat.lt_or_ge x cs.size with q | q
     ·exact .inl ⟨_,_,g1,rfl,Nat.zero_le _,q⟩
     ·right;rw [Array.getElem?_eq_none (by omega),Array.getElem?_eq_none q]
   ·exact Keep.alloc own w _
  sub:=fun b2 x ⟨k,r,e,hr⟩=>by
   rcases hcases _ _ e with ⟨_,rfl⟩ | ⟨_,rfl⟩ | ⟨_,_,_,_,o⟩
   ·rcases hcase with ⟨rfl,_,hs,_⟩ | ⟨rfl,_⟩
    ·exact .inl ⟨_,_,g1,hr.1,Nat.zero_le _,by have:=hr.2.2;simp only at this ⊢;omega⟩
    ·exact .inr (Nat.le_of_eq hr.1)
   ·have:=hr.2;simp only at this;omega
   ·exact .inl ⟨k,r,o,hr⟩
  subB:=fun k r l e=>by
   rcases hcases _ _ e with ⟨_,rfl⟩ | ⟨rfl,_⟩ | ⟨_,_,_,_,o⟩
   ·rcases hcase with ⟨rfl,_⟩ | ⟨rfl,_⟩
    ·exact .inl ⟨_,_,rfl,g1,rfl⟩
    ·exact .inr (Nat.le_refl _)
   ·cases l
   ·exact .inl ⟨k,r,l,o,rfl⟩
  rho:=hrho
  same:=fun k r e hT=>by
   have n1:k≠.obj id:=fun q=>hT (.inl q)
   refine ⟨by rw [hsame k n1 (fun q=>hT (.inr (.inl q))) (fun q=>hT (.inr (.inr (.inl q)))) (fun j q=>hT (.inr (.inr (.inr ⟨j,q⟩))))];exact e,fun l=>hother _ (fun q=>n1 (hfree k r l e q).1) (h.sr.base.lt _ _ e)⟩
  new:=fun k hT e=>by rw [hsame k (fun q=>hT (.inl q)) (fun q=>hT (.inr (.inl q))) (fun q=>hT (.inr (.inr (.inl q)))) (fun j q=>hT (.inr (.inr (.inr ⟨j,q⟩))))];exact e
  base:=hbase}
 refine ⟨own',h.post p rfl rfl (Nat.le_refl _) (fun g _ hm=>⟨hm,by simp⟩) h.tokLt (fun g hm=>by rw [hown];exact h.newTok g hm) (fun i r e=>by rw [hown];exact e) (fun i bx hb=>.inl ⟨hb,by simp⟩) (fun i hi=>by rw [hown];exact h.newLoc i hi) ?_ ?_ ?_,Own.aj0 hob,fun i=>by rw [hown];rfl⟩
 ·intro i o ho
  simp only at ho
  rw [List.getElem?_append] at ho
  split at ho
  ·rename_i hi
   rw [List.getElem?_set] at ho
   by_cases q:id=i
   ·subst q
    rw [if_pos rfl,if_pos hid] at ho
    injection ho with ho
    subst ho
    exact .inr trivial
   ·rw [if_neg q] at ho
    have hi:i<st.s.length:=by simpa using hi
    exact .inl ⟨ho,by simp;omega,fun off=>by simp;exact fun z=>q z.symm⟩
  ·rename_i hi
   have:i=st.s.length:=by
    have:=(List.getElem?_eq_some_iff.1 ho).1
    simp at this hi;omega
   subst this
   simp at ho
   subst ho
   refine .inr ⟨b',cs',T',hob,hheap,by simpa using hvs,fun j v fl y hj hy=>?_⟩
   rw [List.getElem?_map] at hj
   obtain ⟨v',hv',e⟩:=Option.map_eq_some_iff.1 hj
   injection e with e1 e2
   subst e1;subst e2
   obtain ⟨y2,z1,z2,z3⟩:=hrow j v' hv'
   rw [hy] at z1
   injection z1 with z1
   subst z1
   exact ⟨z2,p.stay.v z3,fun hf=>aC2 hf _ _⟩
 ·intro i hi
  simp at hi
  rw [hsame (.obj i) (by simp;omega) (by simp) (by simp;omega) (by simp),hsame (.ghost i) (by simp) (by simp;omega) (by simp) (by simp)]
  exact h.sr.newObj i (by omega)
 ·intro i j r e
  rcases hcases _ _ e with ⟨q,_⟩ | ⟨q,_⟩ | ⟨_,_,_,n4,o⟩
  ·cases q
  ·cases q
  ·obtain ⟨c1,v,e1,e2⟩:=h.sr.spare i j r o
   have q:id≠i:=by rintro rfl;exact n4 j rfl
   have hi:=(List.getElem?_eq_some_iff.1 e1).1
   exact ⟨c1,v,by simp only;rw [List.getElem?_append_left (by simpa using hi),List.getElem?_set,if_neg q];exact e1,e2⟩
theorem growS_run (h:FR P H mo acc w0 own st a w)(t t2 ty e:TypeId)(d2:TypeDesc)(ht:P.underlying t=some (.slice e))(ht2:P.underlying t2=some d2)(hd:noInt d2)(id off k n c:Nat)(x:V)(s' x':Value)(hs:XRel (Mut mo own) own w (.slo id off k n c) s')
  (hx:XRel (Mut mo own) own w x x') (r:V×Tag) (st':St) (hr:bb8 P e id off k n x st=some (r,st')):
  ∃u w' own',(Builtin.append_ #[t,t2] ty #[s',x']).run P w=.ok u w'/\FR P H mo acc w0 own' st' a w'/\XRel (Mut mo own') own' w' r.1 u/\TRel own' st'.l st'.g r.1 r.2 u/\st'.t=st.t:=by
 unfold bb8 at hr
 obtain ⟨xs,hxs,hr⟩:=Option.bind_eq_some_iff.1 hr
 obtain ⟨es,hes,hr⟩:=Option.bind_eq_some_iff.1 hr
 have q1:=aa2 hr
 clear hr
 obtain ⟨hck,hr⟩:=q1
 simp only [Bool.and_eq_true,Nat.blt_eq,Nat.ble_eq,beq_iff_eq] at hck
 obtain ⟨⟨⟨⟨⟨hK,hkK⟩,hoff⟩,hpos⟩,hb1⟩,hb2⟩:=hck
 obtain ⟨z,hz,hr⟩:=Option.bind_eq_some_iff.1 hr
 have q1:=aa2 hr
 clear hr
 obtain ⟨hzk,hr⟩:=q1
 simp at hzk
 simp only [Option.some.injEq] at hr
 injection hr with e1 e2
 subst e1;subst e2
 subst hoff
 obtain ⟨i,zv,hi,hiz,rfl⟩:=an4 hz
 have hzs:zv.cells.size=P.cellsOf e:=by rw [←hzk.1];exact (am5 (ag6 (Mut mo own) own w zv) hzk.2).1
 have hsize:i.size=P.cellsOf e:=by simp [Program.cellsOf,hi]
 have hbytes:i.bytes=P.bytesOf e:=by simp [Program.bytesOf,hi]
 obtain ⟨l1,l2,l3⟩:=aW8 (P:=P) h.sr hK x xs hxs x' hx
 have hes2:srcS st (P.cellsOf e) (.slo id 0 k n c)=some es:=by
  unfold srcS
  rw [hkK]
  simp only [beq_self_eq_true,ck,cond_true]
  rw [←hkK];exact hes
 obtain ⟨m1,m2,m3⟩:=aW8 (P:=P) h.sr hK _ es hes2 s' hs
 have hs0:=hs
 cases hs with
 | slo _ _ _ _ _ b q hb hn hc hC=>
 have hlen:es.length=n:=by
  have e1:(Builtin.lenOf (.slice (some ⟨b,0,none⟩) n q)).run P w=.ok n w:=rfl
  rw [e1] at m1
  injection m1 with m1
  exact m1.symm
 unfold aT9 at hes
 split at hes
 rotate_left
 ·cases hes
 rename_i box hbox
 have q1:=aa2 hes
 clear hes
 obtain ⟨hle,hes⟩:=q1
 simp only [Option.some.injEq] at hes
 have hle:n*k<=box.length:=by simpa using hle
 obtain ⟨b2,cs,T,g1,g2,g3,g4⟩:=ar2 h.sr hbox
 rw [Own.aj0 g1] at hb
 injection hb with hb
 injection hb with eb eC
 simp only at eb eC
 subst eb;subst eC
 generalize hKe:P.cellsOf e=K at *
 subst hkK
 have hcx:∀e∈xs,e.cells.length=k:=fun e he=>(l2 e he).1
 have hce:∀e∈es,e.cells.length=k:=fun e he=>(m2 e he).1
 have hca:∀e∈es++xs,e.cells.length=k:=fun e he=>(List.mem_append.1 he).elim (hce e) (hcx e)
 have hga:∀e∈es++xs,ac5 e.cells=true:=fun e he=>(List.mem_append.1 he).elim (fun q=>(m2 e q).2) (fun q=>(l2 e q).2)
 have hfl:=aP5 (es++xs) hca
 have hadd:(n+xs.length)*k=n*k+xs.length*k:=Nat.add_mul _ _ _
 rw [List.length_append,hlen] at hfl
 by_cases hroom:n+xs.length<=q
 ·
  have hqk:(n+xs.length)*k<=q*k:=Nat.mul_le_mul_right k hroom
  obtain ⟨nv,f1,f2,f3⟩:=l3 w rfl
  have hone:=aU8 hK f2 l2 f3
  have hst:=run_storeCells_at P b2 (0+n*k) T nv.toList 0 cs w g2 (by simp [f2];omega) hone
  have hsp:=fun j=>ap6 cs nv.toList (0+n*k) j (by simp [f2];omega)
  have hrun:=aA3 t t2 ty e i d2 ht ht2 hd hi (some ⟨b2,0,none⟩) n q xs.length x' nv _ l1 hroom (by rw [hsize];exact f1) (by rw [hsize];show (storeCells ((⟨b2,0,none⟩:Addr).add (n*k)) nv.toList).run P w=_;rw [an1];exact hst)
  generalize hnew:(cs.toList.take (0+n*k+0)++nv.toList++cs.toList.drop (0+n*k+0+nv.toList.length)).toArray=cs' at hrun hsp
  have hs':cs'.size=cs.size:=by rw [←hnew];simp [f2];omega
  obtain ⟨ev,k1,k2,k3⟩:=m3 w rfl
  have hev:∀p,p<n*k->ev.getD p undef=cs.getD p undef:=by
   intro p hp
   have hl:=run_loadCells (P:=P) w ⟨b2,0,none⟩ (n*k) (fun p=>cs.getD (0+p) undef) (fun p hp=>by
    rw [an1,cell_of_heap g2,Array.getD_eq_getD_getElem?,Array.getElem?_eq_getElem (show 0+p<cs.size by omega)]
    rfl)
   have:(Builtin.firstCells k es.length (.slice (some ⟨b2,0,none⟩) n q)).run P w=.ok (((List.range (n*k)).map fun p=>cs.getD (0+p) undef).toArray) w:=by rw [hlen];exact hl
   rw [this] at k1
   injection k1 with k1
   rw [←k1]
   simp [Array.getD_eq_getD_getElem?,List.getElem?_map,List.getElem?_range hp]
  obtain ⟨own',r1,r2,r3⟩:=h.bu5 hbox g1 g2 (w.setRow b2 cs') b2 cs' T (.inl ⟨rfl,rfl,hs',rfl⟩) ((es++xs).flatMap V.cells) (by rw [hfl,hs'];omega) (fun p v hv=>by
   obtain ⟨i2,e2,j2,rfl,q2,q3⟩:=flat_get (es++xs) hca p v hv
   have hg:=ap9 _ _ _ (hga e2 (List.mem_of_getElem? q2)) q3
   have hj2:j2<k:=by rw [←hca e2 (List.mem_of_getElem? q2)];exact (List.getElem?_eq_some_iff.1 q3).1
   rw [List.getElem?_append] at q2
   split at q2
   ·rename_i hi2
    rw [hlen] at hi2
    obtain ⟨y1,y2⟩:=k3 i2 e2 j2 v q2 q3
    have hlt:=ay1 hi2 hj2
    refine ⟨ev.getD (i2*k+j2) undef,?_,hg,y2⟩
    rw [hev _ hlt,hsp,if_neg (by omega),Array.getD_eq_getD_getElem?,Array.getElem?_eq_getElem (show i2*k+j2<cs.size by omega)]
    rfl
   ·rename_i hi2
    rw [hlen] at hi2 q2
    obtain ⟨y1,y2⟩:=f3 (i2-n) e2 j2 v q2 q3
    have hi3:i2-n<xs.length:=(List.getElem?_eq_some_iff.1 q2).1
    have hlt:=ay1 hi3 hj2
    have hsplit:i2*k+j2=n*k+((i2-n)*k+j2):=by
     have:i2*k=n*k+(i2-n)*k:=by rw [←Nat.add_mul];congr 1;omega
     omega
    refine ⟨nv.getD ((i2-n)*k+j2) undef,?_,hg,y2⟩
    rw [hsp,if_pos (by simp only [Array.length_toList,f2];omega)]
    rw [show i2*k+j2-(0+n*k)=(i2-n)*k+j2 by omega]
    simpa using y1)
  exact ⟨_,_,own',hrun,r1,XRel.of (.slo _ 0 _ _ _ b2 q (by rw [r2]) (Nat.le_refl _) hroom (by rw [hs'];omega)),trivial,rfl⟩
 ·
  obtain ⟨nv,f1,f2,f3⟩:=l3 w.drew rfl
  obtain ⟨ev,k1,k2,k3⟩:=m3 w.drew rfl
  have h63:¬(9223372036854775807<((n+xs.length:Nat):Int)):=by omega
  have h48:=growslice_fits (need:=n+xs.length) (old:=q) (bytes:=i.bytes) (by omega) (by rw [hbytes];exact hb1)
  have hrun:=aT4 t t2 ty e i zv d2 ht ht2 hd hi hiz (some ⟨b2,0,none⟩) n q xs.length x' ev nv l1 hroom h63 h48 (by rw [hsize,←hlen];rw [hlen] at k1 ⊢;exact k1) (by rw [hsize];exact f1)
  have hcap:n+xs.length<=grownCap w (n+xs.length) q e:=by
   simp only [grownCap,Question.cut];omega
  generalize grownCap w (n+xs.length) q e=cap at hrun hcap
  have hrs:(ev++nv++Builtin.zeroCells zv.cells (cap-(n+xs.length))).size=cap*k:=by
   rw [Array.size_append,Array.size_append,size_zeroCells,hzs,f2,k2,hlen,←Nat.add_mul,←Nat.add_mul]
   congr 1;omega
  have hd1:=h.drew
  have sd:=(Post.drew h.sr.base (fun _=>False)).stay
  have hrow:∀(p:Nat) (v:V),((es++xs).flatMap V.cells)[p]? =some v->∃y,(ev++nv++Builtin.zeroCells zv.cells (cap-(n+xs.length)))[p]? =some y/\v.good=true/\VRel (Mut mo own) own.rho w.drew v y:=by
   intro p v hv
   obtain ⟨i2,e2,j2,rfl,q2,q3⟩:=flat_get (es++xs) hca p v hv
   have hg:=ap9 _ _ _ (hga e2 (List.mem_of_getElem? q2)) q3
   have hj2:j2<k:=by rw [←hca e2 (List.mem_of_getElem? q2)];exact (List.getElem?_eq_some_iff.1 q3).1
   rw [List.getElem?_append] at q2
   split at q2
   ·rename_i hi2
    obtain ⟨y1,y2⟩:=k3 i2 e2 j2 v q2 q3
    have hlt:=ay1 hi2 hj2
    refine ⟨_,?_,hg,sd.v y2⟩
    rw [Array.getElem?_append_left (by simp;omega),Array.getElem?_append_left (by omega)]
    exact y1
   ·rename_i hi2
    rw [hlen] at hi2 q2
    obtain ⟨y1,y2⟩:=f3 (i2-n) e2 j2 v q2 q3
    have hi3:i2-n<xs.length:=(List.getElem?_eq_some_iff.1 q2).1
    have hlt:=ay1 hi3 hj2
    have hsplit:i2*k+j2=n*k+((i2-n)*k+j2):=by
     have:i2*k=n*k+(i2-n)*k:=by rw [←Nat.add_mul];congr 1;omega
     omega
    refine ⟨_,?_,hg,sd.v y2⟩
    rw [Array.getElem?_append_left (by simp [k2,f2,hlen];omega),Array.getElem?_append_right (by rw [k2,hlen];omega),k2,hlen,hsplit,Nat.add_sub_cancel_left]
    exact y1
  obtain ⟨own',r1,r2,r3⟩:=hd1.bu5 hbox g1 g2 (w.drew.alloc (.cells (ev++nv++Builtin.zeroCells zv.cells (cap-(n+xs.length))) e)) w.drew.heap.size _ e (.inr ⟨rfl,rfl⟩) ((es++xs).flatMap V.cells) (by rw [hfl,hrs];exact Nat.mul_le_mul_right k hcap) hrow
  exact ⟨_,_,own',hrun,r1,XRel.of (.slo _ 0 _ _ _ w.drew.heap.size cap (by rw [r2]) (Nat.le_refl _) hcap (by rw [hrs];omega)),trivial,rfl⟩
theorem bA2 (h:FR P H mo acc w0 own st a w)(t e:TypeId)(ht:P.underlying t=some (.slice e))(n:Nat)(z:V)(hz:zeroV P e=some z)(hK:0<P.cellsOf e)(hn:n*P.cellsOf e<=16777216)(hzk:z.cells.length=P.cellsOf e)(hg:ac5 z.cells=true)
  (parts:List (Nat×V)) (parts':Array (Nat×Value)) (hl:parts'.size=parts.length)
  (hp:∀(j:Nat) (p:Nat×V) (q:Nat×Value),parts[j]? =some p->parts'.toList[j]? =some q->q.1=p.1/\XRel (Mut mo own) own w p.2 q.2) (es:List V) (hes:at5 (P.cellsOf e) (List.replicate n z) parts=some es):
  ∃u w' own',(Instr.buildSlice t n parts').run P w=.ok u w'/\FR P H mo acc w0 own' {st with s:=st.s++[.box ((es.flatMap V.cells).map fun c=>(c,nilB c))]} a w'/\XRel (Mut mo own') own' w' (.slo st.s.length 0 (P.cellsOf e) es.length es.length) u:=by
 obtain ⟨i,zv,hi,hiz,rfl⟩:=an4 hz
 have hsize:i.size=P.cellsOf e:=by simp [Program.cellsOf,hi]
 have hc:=(ag6 (Mut mo own) own w zv).crel hg
 obtain ⟨hle,r',g1,g2⟩:=aM8 (M:=Mut mo own) (own:=own) (w:=w) (P.cellsOf e) hK parts parts'.toList _ es _ (by simpa using hl) hp (ERel.zeros (n:=n) hc hzk hK) hes
 simp at hle
 have hrun:(Instr.buildSlice t n parts').run P w=.ok (.slice (some ⟨w.heap.size,0,none⟩) n n) (w.alloc (.cells r' e)):=by
  by_cases h0:n=0
  ·subst h0
   cases parts with
   | cons p _=>simp [at5,ck] at hes
   | nil=>
    have hpe:parts'.toList=[]:=by
     have:parts'.toList.length=0:=by simpa using hl
     exact List.eq_nil_of_length_eq_zero this
    rw [hpe] at g1
    simp [Instr.fill] at g1
    subst g1
    have e0:∀f:Nat->Value,Array.map f (Array.range 0)= #[]:=fun f=>Array.size_eq_zero_iff.1 (by simp)
    simp [Instr.buildSlice,run_underlying ht,sizeOf,typeInfo,hi,hpe,Instr.fill,newRow,e0]
  ·exact run_buildSlice w t e n parts' r' i zv ht hi hiz (by rw [hsize];omega) (by rw [hsize];have:=Nat.mul_pos (Nat.pos_of_ne_zero h0) hK;omega) (by rw [hsize];exact g1)
 have hcells:∀e2∈es,e2.cells.length=P.cellsOf e:=fun e2 he=>(g2.2.1 e2 he).1
 have hfl:=aP5 es hcells
 have hmo:∀b x,mo b x->b<w.heap.size:=fun b x hm=>Nat.lt_of_lt_of_le (h.mlt b x hm) h.keep.size
 obtain ⟨hk,hgh⟩:=h.sr.newObj _ (Nat.le_refl st.s.length)
 have p:=Post.aE1 (mo:=mo) h.sr.base hmo (.cells r' e) (.obj st.s.length) hk 0 r'.size (by simp [Key.room]) (fun id e=>by injection e with e;subst e;exact Own.aQ7 hk hgh)
 refine ⟨_,_,_,hrun,h.post p rfl rfl (Nat.le_refl _) (fun g _ hm=>⟨hm,by simp⟩) h.tokLt (fun g hm=>by rw [Own.ab6 _ _ (by simp)];exact h.newTok g hm) (fun i r e=>by rw [Own.ab6 _ _ (by simp)];exact e)
  (fun i box hb=>.inl ⟨hb,by simp⟩) (fun i hi=>by rw [Own.ab6 _ _ (by simp)];exact h.newLoc i hi) ?_ ?_ ?_,?_⟩
 rotate_right
 ·have hsl:XRel (Mut mo (own.set (.obj st.s.length) (some (w.heap.size,0,r'.size)))) (own.set (.obj st.s.length) (some (w.heap.size,0,r'.size))) (w.alloc (.cells r' e)) (.slo st.s.length 0 (P.cellsOf e) es.length es.length) (.slice (some ⟨w.heap.size,0,none⟩) es.length n):=XRel.of (.slo st.s.length 0 (P.cellsOf e) es.length es.length w.heap.size n (Own.aj0 (Own.ab7 _ _ _)) (Nat.le_refl _) (by omega) (by rw [Nat.zero_add,g2.1,hle];exact Nat.le_refl _))
  rw [hle] at hsl ⊢
  exact hsl
 ·intro id o ho
  rw [List.getElem?_append] at ho
  split at ho
  ·exact .inl ⟨ho,by simp;omega,by simp⟩
  ·have:id=st.s.length:=by
    have:=(List.getElem?_eq_some_iff.1 ho).1
    simp at this;omega
   subst this
   simp at ho
   subst ho
   right
   refine ⟨w.heap.size,r',e,by rw [Own.ab7],heap_alloc_new _,?_,fun j v fl y hj hy=>?_⟩
   ·rw [List.length_map,hfl,g2.1];exact Nat.le_refl _
   ·rw [List.getElem?_map] at hj
    obtain ⟨v',hv',e1⟩:=Option.map_eq_some_iff.1 hj
    injection e1 with e1 e2
    subst e1;subst e2
    obtain ⟨i2,e2,j2,rfl,q2,q3⟩:=flat_get es hcells j v' hv'
    obtain ⟨y1,y2⟩:=g2.getD q2 q3
    rw [hy] at y1
    injection y1 with y1
    rw [←y1] at y2
    exact ⟨ap9 _ _ _ (g2.2.1 e2 (List.mem_of_getElem? q2)).2 q3,p.stay.v y2,fun hf=>aC2 hf _ _⟩
 ·intro id hi
  simp at hi
  exact at1 (by simp;omega) (by simp) (h.sr.newObj id (by omega))
 ·intro id off r e
  rw [Own.ab6 _ _ (by simp)] at e
  obtain ⟨cs2,v,c1,c2⟩:=h.sr.spare id off r e
  exact ⟨cs2,v,by rw [List.getElem?_append_left (List.getElem?_eq_some_iff.1 c1).1];exact c1,c2⟩
theorem bh3 (h:FR P H mo acc w0 own st a w)(tk:Bool)(t t2 ty e:TypeId)(d2:TypeDesc)(ht:P.underlying t=some (.slice e))(ht2:P.underlying t2=some d2)(hd:noInt d2)(s:V×Tag)(x:V)(s' x':Value)(hs:XRel (Mut mo own) own w s.1 s')(htag:TRel own st.l st.g s.1 s.2 s')
  (hx:XRel (Mut mo own) own w x x') (r:V×Tag) (st':St) (hr:aA4 P tk e s x st=some (r,st')):
  ∃u w' own',(Builtin.append_ #[t,t2] ty #[s',x']).run P w=.ok u w'/\FR P H mo acc w0 own' st' a w'/\XRel (Mut mo own') own' w' r.1 u/\TRel own' st'.l st'.g r.1 r.2 u/\st'.t=st.t:=by
 have info:0<P.cellsOf e->∃i,P.info? e=some i/\i.size=P.cellsOf e:=by
  intro hK
  cases hi:P.info? e with
  | none=>simp [Program.cellsOf,hi] at hK
  | some i=>exact ⟨i,rfl,by simp [Program.cellsOf,hi]⟩
 have new:∀(nn:Bool) (k:Nat) (A:Option Addr),XRel (Mut mo own) own w (.list nn k []) (.slice A 0 0)->s'=.slice A 0 0->newS P e nn k x st=some (r,st') ->
   ∃u w' own',(Builtin.append_ #[t,t2] ty #[s',x']).run P w=.ok u w'/\FR P H mo acc w0 own' st' a w'/\XRel (Mut mo own') own' w' r.1 u/\TRel own' st'.l st'.g r.1 r.2 u/\st'.t=st.t:=by
  intro nn k A hs0 hs' hq
  subst hs'
  unfold newS at hq
  obtain ⟨xs,hxs,hq1⟩:=Option.bind_eq_some_iff.1 hq
  clear hq
  have q1:=aa2 hq1
  clear hq1
  obtain ⟨hK,hq1⟩:=q1
  have hK:0<P.cellsOf e:=by simpa using hK
  obtain ⟨z,hz,hq2⟩:=Option.bind_eq_some_iff.1 hq1
  clear hq1
  have q1:=aa2 hq2
  clear hq2
  obtain ⟨hzk,hq⟩:=q1
  simp at hzk
  obtain ⟨i,zv,hi,hiz,rfl⟩:=an4 hz
  have hzs:zv.cells.size=P.cellsOf e:=by rw [←hzk.1];exact (am5 (ag6 (Mut mo own) own w zv) hzk.2).1
  have hsize:i.size=P.cellsOf e:=by simp [Program.cellsOf,hi]
  have hbytes:i.bytes=P.bytesOf e:=by simp [Program.bytesOf,hi]
  obtain ⟨l1,l2,l3⟩:=aW8 (P:=P) h.sr hK x xs hxs x' hx
  generalize hKe:P.cellsOf e=K at *
  by_cases hm:xs=[]
  ·subst hm
   simp only [Option.some.injEq] at hq
   injection hq with e1 e2
   subst e1;subst e2
   obtain ⟨nv,f1,f2,f3⟩:=l3 w rfl
   have hnv:nv= #[]:=by
    have:nv.size=0:=by simpa using f2
    exact Array.size_eq_zero_iff.1 this
   subst hnv
   have hrun:=aA3 t t2 ty e i d2 ht ht2 hd hi A 0 0 0 x' #[] w l1 (Nat.le_refl _) (by rw [hsize];exact f1) (by cases A<;>rfl)
   exact ⟨_,_,own,hrun,h,hs0,trivial,rfl⟩
  ·have hpos:0<xs.length:=by
    cases xs with
    | nil=>exact absurd rfl hm
    | cons _ _=>simp
   have hq2:(ck (Nat.ble (xs.length*P.bytesOf e) 140737488355328&&Nat.ble xs.length 140737488355328) <|
     some ((V.slo st.s.length 0 K xs.length xs.length,Tag.no),{st with s:=st.s++[.box ((xs.flatMap V.cells).map fun c=>(c,nilB c))]}))=some (r,st'):=by
    cases xs with
    | nil=>exact absurd rfl hm
    | cons _ _=>exact hq
   clear hq
   obtain ⟨hbd,hq⟩:=aa2 hq2
   simp only [Bool.and_eq_true,Nat.ble_eq] at hbd
   simp only [Option.some.injEq] at hq
   injection hq with e1 e2
   subst e1;subst e2
   have h63:¬(9223372036854775807<((0+xs.length:Nat):Int)):=by omega
   have h48:=growslice_fits (need:=0+xs.length) (old:=0) (bytes:=i.bytes) (by omega) (by rw [hbytes,Nat.zero_add];exact hbd.1)
   obtain ⟨nv,f1,f2,f3⟩:=l3 w.drew rfl
   have hrun:=aT4 t t2 ty e i zv d2 ht ht2 hd hi hiz A 0 0 xs.length x' #[] nv l1 (by omega) h63 h48 (by
    cases A with
    | none=>rfl
    | some A=>simp [Builtin.firstCells,loadCells,loadCellsFrom]) (by rw [hsize];exact f1)
   have hcap:0+xs.length<=grownCap w (0+xs.length) 0 e:=by
    simp only [grownCap,Question.cut];omega
   generalize grownCap w (0+xs.length) 0 e=cap at hrun hcap
   simp only [Nat.zero_add] at hrun hcap
   have hrs:(#[]++nv++Builtin.zeroCells zv.cells (cap-xs.length)).size=cap*K:=by
    rw [Array.size_append,Array.size_append,size_zeroCells,hzs,f2,show (#[]:Array Value).size=0 from rfl,Nat.zero_add,←Nat.add_mul]
    congr 1;omega
   have hcells:∀e∈xs,e.cells.length=K:=fun e he=>(l2 e he).1
   have hfl:=aP5 xs hcells
   have hrow:∀(p:Nat) (v:V),(xs.flatMap V.cells)[p]? =some v->∃y,(#[]++nv++Builtin.zeroCells zv.cells (cap-xs.length))[p]? =some y/\v.good=true/\VRel (Mut mo own) own.rho w v y:=by
    intro p v hv
    obtain ⟨i2,e2,j,rfl,q2,q3⟩:=flat_get xs hcells p v hv
    obtain ⟨y1,y2⟩:=f3 i2 e2 j v q2 q3
    have hlt:i2*K+j<nv.size:=(Array.getElem?_eq_some_iff.1 y1).1
    refine ⟨_,?_,ap9 _ _ _ (l2 e2 (List.mem_of_getElem? q2)).2 q3,y2⟩
    rw [Array.getElem?_append_left (by simp;omega),Array.getElem?_append_right (by simp)]
    simpa using y1
   generalize #[]++nv++Builtin.zeroCells zv.cells (cap-xs.length)=row at hrun hrs hrow
   have hd1:=h.drew
   have hmo:∀b x,mo b x->b<w.drew.heap.size:=fun b x hm=>Nat.lt_of_lt_of_le (h.mlt b x hm) h.keep.size
   obtain ⟨hk,hgh⟩:=hd1.sr.newObj _ (Nat.le_refl st.s.length)
   have p:=Post.aE1 (mo:=mo) hd1.sr.base hmo (.cells row e) (.obj st.s.length) hk 0 row.size (by simp [Key.room]) (fun id e=>by injection e with e;subst e;exact Own.aQ7 hk hgh)
   have sd:=(Post.drew h.sr.base (fun _=>False)).stay
   refine ⟨_,_,_,hrun,hd1.post p rfl rfl (Nat.le_refl _) (fun g _ hm=>⟨hm,by simp⟩) h.tokLt (fun g hm=>by rw [Own.ab6 _ _ (by simp)];exact h.newTok g hm) (fun i r e=>by rw [Own.ab6 _ _ (by simp)];exact e)
    (fun i box hb=>.inl ⟨hb,by simp⟩) (fun i hi=>by rw [Own.ab6 _ _ (by simp)];exact h.newLoc i hi) ?_ ?_ ?_,XRel.of (.slo _ 0 _ _ _ w.heap.size cap (Own.aj0 (Own.ab7 _ _ _)) (Nat.le_refl _) hcap (by rw [Nat.zero_add,hrs];exact Nat.le_refl _)),trivial,rfl⟩
   ·intro id o ho
    rw [List.getElem?_append] at ho
    split at ho
    ·exact .inl ⟨ho,by simp;omega,by simp⟩
    ·have:id=st.s.length:=by
      have:=(List.getElem?_eq_some_iff.1 ho).1
      simp at this;omega
     subst this
     simp at ho
     subst ho
     right
     refine ⟨w.drew.heap.size,row,e,by rw [Own.ab7],heap_alloc_new _,?_,fun j v fl y hj hy=>?_⟩
     ·rw [List.length_map,hfl,hrs];exact Nat.mul_le_mul_right K hcap
     ·rw [List.getElem?_map] at hj
      obtain ⟨v',hv',e⟩:=Option.map_eq_some_iff.1 hj
      injection e with e1 e2
      subst e1;subst e2
      obtain ⟨y2,z1,z2,z3⟩:=hrow j v' hv'
      rw [hy] at z1
      injection z1 with z1
      subst z1
      exact ⟨z2,p.stay.v (sd.v z3),fun hf=>aC2 hf _ _⟩
   ·intro id hi
    simp at hi
    exact at1 (by simp;omega) (by simp) (h.sr.newObj id (by omega))
   ·intro id off r e
    rw [Own.ab6 _ _ (by simp)] at e
    obtain ⟨cs2,v,c1,c2⟩:=h.sr.spare id off r e
    exact ⟨cs2,v,by rw [List.getElem?_append_left (List.getElem?_eq_some_iff.1 c1).1];exact c1,c2⟩
 unfold aA4 at hr
 cases tk with
 | false=>exact appendV_run h t t2 ty e d2 ht ht2 hd s x s' x' hs htag hx r st' hr
 | true=>
  simp only [cond_true] at hr
  split at hr
  ·rename_i id off k n c tg
   simp only at hs
   obtain ⟨b,m,C,hxe,hb',hn,hc,hC⟩:∃b m C,s'=.slice (some ⟨b,off,none⟩) n m/\own.rho id=some (b,C)/\n<=c/\c<=m/\off+m*k<=C:=by
    cases hs with
    | slo _ _ _ _ _ b m hb hn hc hC=>exact ⟨b,m,_,rfl,hb,hn,hc,hC⟩
   subst hxe
   unfold orElse at hr
   split at hr
   ·rename_i q hq
    simp only [Option.some.injEq] at hr
    subst hr
    unfold aN5 at hq
    obtain ⟨xs,hxs,hq⟩:=Option.bind_eq_some_iff.1 hq
    split at hq
    ·rename_i box hbox
     obtain ⟨hck,hq⟩:=aa2 hq
     simp only [Bool.and_eq_true,Nat.blt_eq,Nat.ble_eq,beq_iff_eq] at hck
     obtain ⟨⟨⟨hK,hkK⟩,hroom⟩,hfit⟩:=hck
     simp only [Option.some.injEq] at hq
     injection hq with e1 e2
     subst e1;subst e2
     obtain ⟨i,hi,hsize⟩:=info hK
     obtain ⟨l1,l2,l3⟩:=aW8 (P:=P) h.sr hK x xs hxs x' hx
     rw [←hkK] at hK l2 l3 hsize
     obtain ⟨nv,f1,f2,f3⟩:=l3 w rfl
     obtain ⟨b2,cs,T,g1,g2,g3,_⟩:=ar2 h.sr hbox
     rw [Own.aj0 g1] at hb'
     injection hb' with hb'
     injection hb' with eb eC
     simp only at eb eC
     subst eb;subst eC
     have hadd:(n+xs.length)*k=n*k+xs.length*k:=Nat.add_mul _ _ _
     have hone:=aU8 hK f2 l2 f3
     have hst:=run_storeCells_at P b2 (off+n*k) T nv.toList 0 cs w g2 (by simp [f2];omega) hone
     have hsp:=fun j=>ap6 cs nv.toList (off+n*k) j (by simp [f2];omega)
     have hrun:=aA3 t t2 ty e i d2 ht ht2 hd hi (some ⟨b2,off,none⟩) n m xs.length x' nv _ l1 (by omega) (by rw [hsize];exact f1) (by rw [hsize];show (storeCells ((⟨b2,off,none⟩:Addr).add (n*k)) nv.toList).run P w=_;rw [an1];exact hst)
     generalize hnew:(cs.toList.take (off+n*k+0)++nv.toList++cs.toList.drop (off+n*k+0+nv.toList.length)).toArray=cs' at hrun hsp
     have hs':cs'.size=cs.size:=by rw [←hnew];simp [f2];omega
     have hcells:∀e∈xs,e.cells.length=k:=fun e he=>(l2 e he).1
     have hfl:=aP5 xs hcells
     refine ⟨_,_,_,hrun,h.plain (n:=xs.length*k) hbox (by omega) nv.toList (by simp [f2]) g1 g2 g3 (xs.flatMap V.cells) hfl cs' hs' (fun j=>by rw [hsp j];simp only [Array.length_toList,f2]) (fun j v y hj hy=>?_),XRel.of (.slo id off k _ c b2 m (by rw [rho_clr];exact Own.aj0 g1) hroom hc hC),trivial,rfl⟩
     obtain ⟨i2,e2,j2,rfl,q2,q3⟩:=flat_get xs hcells j v hj
     obtain ⟨y1,y2⟩:=f3 i2 e2 j2 v q2 q3
     have:nv[i2*k+j2]? =some y:=by simpa using hy
     rw [this] at y1
     injection y1 with y1
     rw [←y1] at y2
     exact ⟨ap9 _ _ _ (l2 e2 (List.mem_of_getElem? q2)).2 q3,y2⟩
    ·cases hq
   ·exact growS_run h t t2 ty e d2 ht ht2 hd id off k n c x _ x' hs hx r st' hr
  ·rename_i k tg
   cases hs with
   | nillist=>exact new false k none (XRel.of (.nillist k)) rfl hr
  ·rename_i k
   simp only at hs htag
   cases hs with
   | list _ _ b o c f n hn hc hk hg g1 g2 sp hsp=>
    have h0:n=0:=by simpa using hn.symm
    subst h0
    have hc0:c=0:=htag _ _ _ rfl
    subst hc0
    exact new true k (some ⟨b,o,sp⟩) (XRel.of (.list k [] b o 0 f 0 rfl hc hk hg g1 g2 sp hsp)) rfl hr
  ·cases hr
theorem clearV_run (h:FR P H mo acc w0 own st a w)(t ty e:TypeId)(ht:P.underlying t=some (.slice e))(s:V)(s':Value)(hs:XRel (Mut mo own) own w s s')(r:V×Tag)(st':St)(hr:aH2 P e s st=some (r,st')):
  ∃u w' own',(Builtin.clear_ #[t] ty #[s']).run P w=.ok u w'/\FR P H mo acc w0 own' st' a w'/\XRel (Mut mo own') own' w' r.1 u/\TRel own' st'.l st'.g r.1 r.2 u/\st'.t=st.t:=by
 unfold aH2 at hr
 split at hr
 ·rename_i id off k n c
  obtain ⟨z,hz,hr⟩:=Option.bind_eq_some_iff.1 hr
  split at hr
  ·rename_i box hbox
   obtain ⟨hck,hr⟩:=aa2 hr
   simp only [Bool.and_eq_true,Nat.blt_eq,Nat.ble_eq,beq_iff_eq] at hck
   obtain ⟨⟨⟨⟨hK,hkK⟩,hzl⟩,hzg⟩,hfit⟩:=hck
   simp only [Option.some.injEq] at hr
   injection hr with e1 e2
   subst e1;subst e2
   obtain ⟨i,zv,hi,hiz,rfl⟩:=an4 hz
   obtain ⟨zr1,zr2⟩:=am5 (ag6 (Mut mo own) own w zv) hzg
   have hzs:zv.cells.size=P.cellsOf e:=by rw [←hzl];exact zr1
   rw [←hkK] at hK hzl hzs
   obtain ⟨b,cs,T,g1,g2,g3,_⟩:=ar2 h.sr hbox
   cases hs with
   | slo _ _ _ _ _ b' m hb' hn hc hC=>
   rw [Own.aj0 g1] at hb'
   injection hb' with hb'
   injection hb' with eb eC
   simp only at eb eC
   subst eb;subst eC
   have hzv:∀w:World,(zeroValue e).run P w=.ok zv w:=fun w=>by simp [zeroValue,typeInfo,hi,hiz]
   have hzz:(Builtin.zeroCells zv.cells n).size=n*k:=by rw [size_zeroCells,hzs]
   have hzget:∀j,j<n*k->(Builtin.zeroCells zv.cells n)[j]? =zv.cells[j%k]? :=by
    intro j hj
    have hlt:j%k<zv.cells.size:=by rw [hzs];exact Nat.mod_lt _ hK
    unfold Builtin.zeroCells
    rw [Array.getElem?_map,Array.getElem?_range,hzs,if_pos hj]
    simp [hzs,getElem!_pos,Nat.mod_lt _ hK]
   have hrep:∀(n j:Nat) (v:V),((List.replicate n (ofConst zv).cells).flatten)[j]? =some v->(ofConst zv).cells[j%k]? =some v:=by
    intro n
    induction n with
    | zero=>intro j v hv;simp at hv
    | succ n ih=>
     intro j v hv
     rw [List.replicate_succ,List.flatten_cons] at hv
     by_cases hj:j<k
     ·rw [List.getElem?_append_left (by omega)] at hv
      rw [Nat.mod_eq_of_lt hj];exact hv
     ·rw [List.getElem?_append_right (by omega),hzl] at hv
      have:=ih _ v hv
      rw [←Nat.mod_eq_sub_mod (by omega)] at this
      exact this
   have hone:∀v∈(Builtin.zeroCells zv.cells n).toList,v.oneCell'=true:=by
    intro v hv
    obtain ⟨j,hj⟩:=List.getElem?_of_mem hv
    have hj:(Builtin.zeroCells zv.cells n)[j]? =some v:=by simpa using hj
    have hlt:=(Array.getElem?_eq_some_iff.1 hj).1
    rw [hzget j (by omega)] at hj
    have hlt2:j%k<(ofConst zv).cells.length:=by rw [hzl];exact Nat.mod_lt _ hK
    obtain ⟨y1,y2⟩:=zr2 _ _ v (List.getElem?_eq_getElem hlt2) hj
    exact (y2.one y1).2
   have hfin:∀(cs':Array Value),cs'.size=cs.size->(∀j:Nat,cs'[j]? =if off<=j/\j<off+n*k then (Builtin.zeroCells zv.cells n).toList[j-off]? else cs[j]?) ->
     FR P H mo acc w0 (own.clr id off (n*k)) {st with s:=st.s.set id (.box (ae3 box off ((List.replicate n (ofConst zv).cells).flatten.map fun c=>(c,nilB c))))} a (w.setRow b cs'):=by
    intro cs' hs' hsp
    refine h.plain (n:=n*k) hbox hfit (Builtin.zeroCells zv.cells n).toList (by simp [hzz]) g1 g2 g3 _ (by simp [hzl]) cs' hs' hsp fun j v y hj hy=>?_
    have hy:(Builtin.zeroCells zv.cells n)[j]? =some y:=by simpa using hy
    have hlt:=(Array.getElem?_eq_some_iff.1 hy).1
    rw [hzget j (by omega)] at hy
    exact zr2 _ _ _ (hrep n j v hj) hy
   have hsp:=fun j=>ap6 cs (Builtin.zeroCells zv.cells n).toList off j (by simp [hzz];omega)
   have hst:=run_storeCells_at P b off T (Builtin.zeroCells zv.cells n).toList 0 cs w g2 (by simp [hzz];omega) hone
   generalize hnew:(cs.toList.take (off+0)++(Builtin.zeroCells zv.cells n).toList++cs.toList.drop (off+0+(Builtin.zeroCells zv.cells n).toList.length)).toArray=cs' at hst hsp
   have hs':cs'.size=cs.size:=by rw [←hnew];simp [hzz];omega
   have hF:=hfin cs' hs' (fun j=>by rw [hsp j];simp only [Array.length_toList,hzz])
   have hX:∀(own':Own) (w':World),XRel (Mut mo own') own' w' (.tup []) (.tuple #[]):=fun own' w'=>XRel.of (.tup [] #[] rfl (fun j x y hx=>by simp at hx))
   cases n with
   | zero=>
    have e0:cs'=cs:=by
     apply Array.ext_getElem?
     intro j
     rw [hsp j]
     simp [Builtin.zeroCells]
     intro q1 q2;omega
    rw [e0,setRow_self w b cs T (0,0) g2] at hF
    exact ⟨_,_,_,by simp [Builtin.clear_,run_underlying ht],hF,hX _ _,trivial,rfl⟩
   | succ n=>
    refine ⟨_,_,_,?_,hF,hX _ _,trivial,rfl⟩
    simp [Builtin.clear_,run_underlying ht,hzv,hst]
  ·cases hr
 ·cases hr
end
end Go.Proofs.YtnpjififnhjbbaaDoor.E
namespace Go.Proofs.YtnpjififnhjbbaaDoor.E
open Go
section
variable {P:Program} {H:ae2} {mo:Nat->Nat->Prop} {acc:Own} {w0:World} {own:Own} {st:St} {a:Act} {w:World}
theorem ah9 {S:Sem Value}{x:Value}{w':World}(h:S.run P w=.ok x w'):(do pure (.value (←S)):Sem Next).run P w=.ok (.value x) w':=(ab3 h).trans rfl
theorem bz0 {S:Sem Unit}{w':World}(h:S.run P w=.ok () w'):(do S;pure .skip:Sem Next).run P w=.ok .skip w':=(ab3 h).trans rfl
def OpDone (P:Program)(H:ae2)(mo:Nat->Nat->Prop)(acc:Own)(w0:World)(a:Act)(w:World)(o:Oper)(r:V×Tag)(st st':St):Prop:=
 ∃x w' own',((execOp a.eval o).run P w=.ok (.value x) w'∨((execOp a.eval o).run P w=.ok .skip w'/\x=undef))/\FR P H mo acc w0 own' st' a w'/\XRel (Mut mo own') own' w' r.1 x/\TRel own' st'.l st'.g r.1 r.2 x/\st'.t=st.t
theorem OpDone.same (h:FR P H mo acc w0 own st a w){o:Oper}{r:V×Tag}{x:Value}(hr:(execOp a.eval o).run P w=.ok (.value x) w)(hx:XRel (Mut mo own) own w r.1 x)(ht:TRel own st.l st.g r.1 r.2 x):OpDone P H mo acc w0 a w o r st st:=
 ⟨x,w,own,.inl hr,h,hx,ht,rfl⟩
theorem aS9 {M:Nat->Nat->Prop}{b:Bool}{x:Value}(h:XRel M own w (.bool b) x):x=.bool b:=by cases h;rfl
theorem ba7 (h:FR P H mo acc w0 own st a w)(parts:Array (Nat×Operand)):∀(j:Nat) (p:Nat×V) (q:Nat×Value),(parts.toList.map fun p=>(p.1,(ev H st p.2).1))[j]? =some p->(parts.map fun (i,x)=>(i,a.eval x)).toList[j]? =some q->q.1=p.1/\XRel (Mut mo own) own w p.2 q.2:=by
 intro j p q hp hq
 rw [List.getElem?_map] at hp
 obtain ⟨z,hz,rfl⟩:=Option.map_eq_some_iff.1 hp
 rw [Array.toList_map,List.getElem?_map,hz] at hq
 simp at hq
 subst hq
 exact ⟨rfl,(h.ev z.2).1⟩
theorem bz1 (l:List Operand)(j:Nat)(v:V)(h:(evs H st l)[j]? =some v):∃o,l[j]? =some o/\v=(ev H st o).1:=by
 unfold evs at h
 rw [List.getElem?_map] at h
 obtain ⟨o,ho,rfl⟩:=Option.map_eq_some_iff.1 h
 exact ⟨o,ho,rfl⟩
theorem bh6 (h:FR P H mo acc w0 own st a w)(o:Option Operand):OX (Mut mo own) own w (o.map fun o=>(ev H st o).1) (o.map a.eval):=by
 cases o with
 | none=>trivial
 | some o=>exact (h.ev o).1
theorem lenV_run (h:FR P H mo acc w0 own st a w)(ts:Array TypeId)(t ty:TypeId)(h0:ts[0]? =some t)(x v:V)(hv:lenV P st t x=some v)(x':Value)(hx:XRel (Mut mo own) own w x x'):∃u,(Builtin.len_ ts ty #[x']).run P w=.ok u w/\VRel (Mut mo own) own.rho w v u:=by
 unfold lenV at hv
 unfold Builtin.len_
 rw [h0]
 split at hv
 ·rename_i s ht
  simp only [Option.some.injEq] at hv;subst hv;cases hx
  exact ⟨_,(ab3 (run_underlying ht w)).trans rfl,.int _ _⟩
 ·rename_i e nn k es ht
  simp only [Option.some.injEq] at hv;subst hv
  cases hx with
  | nillist=>exact ⟨_,(ab3 (run_underlying ht w)).trans rfl,.int _ _⟩
  | list _ _ b o c f n hn hc=>subst hn;exact ⟨_,(ab3 (run_underlying ht w)).trans rfl,.int _ _⟩
 ·rename_i ht
  simp only [Option.some.injEq] at hv;subst hv
  cases hx with
  | slo=>exact ⟨_,(ab3 (run_underlying ht w)).trans rfl,.int _ _⟩
 ·rename_i n e ht
  simp only [Option.some.injEq] at hv;subst hv
  exact ⟨_,(ab3 (run_underlying ht w)).trans rfl,.int _ _⟩
 ·rename_i e ht
  split at hv
  ·rename_i n e2 ht2
   simp only [Option.some.injEq] at hv;subst hv
   exact ⟨_,(ab3 (run_underlying ht w)).trans ((ab3 (run_underlying ht2 w)).trans rfl),.int _ _⟩
  ·simp at hv
 ·rename_i kt e ht
  obtain ⟨m,hm,rfl⟩:=Option.map_eq_some_iff.1 hv
  rcases aC5 h.sr _ m hm x' hx with ⟨_,rfl,rfl⟩ | ⟨id,b,es',_,rfl,_,_,hb,hrel,_⟩
  ·exact ⟨_,(ab3 (run_underlying ht w)).trans rfl,.int _ _⟩
  ·refine ⟨_,(ab3 (run_underlying ht w)).trans ((ab3 (w1:=w) (r:=Obj.map es' m.2) (by simp [getObj,Sem.run,hb])).trans rfl),?_⟩
   have:=hrel.1
   simp at this
   rw [←this]
   exact .int _ _
 ·simp at hv
theorem bq2 (mx:Bool)(l:List V)(v:V)(hv:bw5 mx l=some v)(l':Array Value)(hl:l'.size=l.length)(h:∀(j:Nat) (p:V) (q:Value),l[j]? =some p->l'[j]? =some q->XRel (Mut mo own) own w p q)(ts:Array TypeId)(ty:TypeId):
  ∃u,(if mx then Builtin.max_ ts ty l' else Builtin.min_ ts ty l').run P w=.ok u w/\VRel (Mut mo own) own.rho w v u:=by
 unfold bw5 at hv
 split at hv
 ·rename_i k x k' y
  split at hv
  ·rename_i e
   subst e
   simp only [Option.some.injEq] at hv
   subst hv
   obtain ⟨l'⟩:=l'
   match l',hl with
   | [p,q],_=>
    have h1:=h 0 _ p rfl rfl
    have h2:=h 1 _ q rfl rfl
    cases h1;cases h2
    cases mx with
    | true=>exact ⟨_,rfl,.int _ _⟩
    | false=>exact ⟨_,rfl,.int _ _⟩
  ·simp at hv
 ·simp at hv
theorem bh2 (ts:Array TypeId)(t t2 ty:TypeId)(h0:ts[0]? =some t)(h1:ts[1]? =some t2)(args:Array Value):Builtin.append_ ts ty args=Builtin.append_ #[t,t2] ty args:=by
 simp [Builtin.append_,h0,h1]
theorem clear_args (ts:Array TypeId)(t ty:TypeId)(h0:ts[0]? =some t)(args:Array Value):Builtin.clear_ ts ty args=Builtin.clear_ #[t] ty args:=by
 simp [Builtin.clear_,h0]
theorem assert_yes (t xt:TypeId)(d:TypeDesc)(hd:P.underlying t=some d)(hni:∀ms,d≠.interface ms)(v:Value)(ok:Bool):(Instr.typeAssert (.iface t v) xt t ok).run P w=.ok (if ok then .tuple #[v,.bool true] else v) w:=by
 unfold Instr.typeAssert
 refine (ab3 (run_underlying hd w)).trans ?_
 cases d<;>first | exact absurd rfl (hni _) | (cases ok<;>simp)
theorem assert_no (t t' xt:TypeId)(d:TypeDesc)(hd:P.underlying t=some d)(hni:∀ms,d≠.interface ms)(v zv:Value)(hne:t'≠t)(hz:(zeroValue t).run P w=.ok zv w):(Instr.typeAssert (.iface t' v) xt t true).run P w=.ok (.tuple #[zv,.bool false]) w:=by
 unfold Instr.typeAssert
 refine (ab3 (run_underlying hd w)).trans ?_
 cases d<;>first | exact absurd rfl (hni _) | (simp [hne,hz])
theorem assert_nil (t xt:TypeId)(d:TypeDesc)(hd:P.underlying t=some d)(hni:∀ms,d≠.interface ms)(zv:Value)(hz:(zeroValue t).run P w=.ok zv w):(Instr.typeAssert .nilIface xt t true).run P w=.ok (.tuple #[zv,.bool false]) w:=by
 unfold Instr.typeAssert
 refine (ab3 (run_underlying hd w)).trans ?_
 cases d<;>first | exact absurd rfl (hni _) | (simp [hz])
theorem opV_run (h:FR P H mo acc w0 own st a w)(f dst:Nat)(o:Oper)(r:V×Tag)(st':St)(hr:opV P H f dst o.op st=some (r,st')):OpDone P H mo acc w0 a w o r st st':=by
 have upd:∀(t:TypeId) (m k x:Operand),(match P.underlying t,(E.ev H st m).1 with
   | some (.map kt _),.map id=>ck (aN7 P kt (E.ev H st k).1&&(match (E.ev H st x).1 with | .undef | .loc _ _ | .tup _=>false | _=>true))<|(mapOf st (.map id)).bind fun es=>(putV (E.ev H st k).1 (E.ev H st x).1 es.1).map fun es'=>
    ((V.undef,Tag.no),{st with s:=st.s.set id (.map es' (if es'.length=es.1.length then es.2 else es.2+1))})
   | _,_=>none)=some (r,st') ->
   ∃w' own',(Instr.mapUpdate t (a.eval m) (a.eval k) (a.eval x)).run P w=.ok () w'/\FR P H mo acc w0 own' st' a w'/\st'.t=st.t/\r=(.undef,.no):=by
  intro t m k x hr
  have hm:=(h.ev m).1
  generalize hz:a.eval m=z at hm
  split at hr
  ·rename_i kt e id ht em
   obtain ⟨hk,hq⟩:=aa2 hr
   obtain ⟨es,hes,hq⟩:=Option.bind_eq_some_iff.1 hq
   obtain ⟨es',hes',e5⟩:=Option.map_eq_some_iff.1 hq
   injection e5 with e1 e2;subst e1;subst e2
   rw [Bool.and_eq_true] at hk
   rw [em] at hm
   have hxv:VRel (Mut mo own) own.rho w (E.ev H st x).1 (a.eval x):=(h.ev x).1.to (by rintro e;rw [e] at hk;simp at hk) (by rintro i o e;rw [e] at hk;simp at hk)
   obtain ⟨w',u1,u2⟩:=mapUpdate_run h t kt e ht id _ _ hk.1 es hes es' hes' z _ _ hm (h.ev k).1 hxv
   exact ⟨w',own,u1,u2,rfl,rfl⟩
  ·simp at hr
 obtain ⟨d,op,ty,pos,after,guard⟩:=o
 cases op with
 | move x=>
  simp only [opV,Option.some.injEq] at hr
  injection hr with e1 e2;subst e1;subst e2
  exact .same h rfl (h.ev x).1 (h.ev x).2
 | assign x=>
  simp only [opV,Option.some.injEq] at hr
  injection hr with e1 e2;subst e1;subst e2
  exact .same h rfl (h.ev x).1 (h.ev x).2
 | pick c p q=>
  simp only [opV] at hr
  have hc:=(h.ev c).1
  have hp:=h.ev p
  have hq:=h.ev q
  split at hr
  ·rename_i b hb
   rw [hb] at hc
   have hcb:=aS9 hc
   have hrun:∀o:Oper,o.op=.pick c p q->(execOp a.eval o).run P w=.ok (.value (if b then a.eval p else a.eval q)) w:=by
    intro o ho
    simp [execOp,ho,hcb,asBool]
   split at hr
   ·rename_i x _ y _ e1 e2
    simp only [Option.some.injEq] at hr
    injection hr with e3 e4;subst e3;subst e4
    rw [e1] at hp;rw [e2] at hq
    refine .same h (hrun _ rfl) ?_ trivial
    rw [aS9 hp.1,aS9 hq.1]
    cases b<;>exact XRel.of (.bool _)
   ·simp only [Option.some.injEq] at hr
    injection hr with e3 e4;subst e3;subst e4
    refine .same h (hrun _ rfl) ?_ ?_<;>cases b<;>simp only [cond_true,cond_false,if_true,Bool.false_eq_true,if_false]<;>first | exact hp.1 | exact hq.1 | exact hp.2 | exact hq.2
  ·simp at hr
 | binOp op t x y yt=>
  simp only [opV] at hr
  split at hr
  ·rename_i v hv
   simp only [Option.some.injEq] at hr
   injection hr with e1 e2;subst e1;subst e2
   unfold av0 at hv
   split at hv
   ·rename_i n neg i oi j oj hpt hx hy
    obtain ⟨p,hu,rfl,hop'⟩:=ptrT_is hpt
    cases hc:(!(Nat.beq i j)&&!(Nat.beq (P.cellsOf p) 0)&&at2 st.s i&&at2 st.s j) with
    | false=>rw [hc] at hv;cases hv
    | true=>
     rw [hc] at hv
     simp only [cond_true,Option.some.injEq] at hv
     subst hv
     simp only [Bool.and_eq_true,Bool.not_eq_true'] at hc
     obtain ⟨⟨⟨hij,hp⟩,li⟩,lj⟩:=hc
     have hij:i≠j:=fun e=>by subst e;rw [Nat.beq_refl] at hij;cases hij
     have hp:P.cellsOf p≠0:=fun e=>by rw [e] at hp;cases hp
     have hxv:=(h.ev x).1
     have hyv:=(h.ev y).1
     rw [hx] at hxv
     rw [hy] at hyv
     have blk:∀i,at2 st.s i=true->∃r,own (.obj i)=some r/\∃cs T,w.heap[r.1]? =some (.cells cs T (0,0)):=by
      intro i hl
      unfold at2 at hl
      split at hl
      ·rename_i cs hs
       obtain ⟨b,cs',T,h1,h2,_⟩:=h.sr.objs i _ hs
       exact ⟨_,h1,_,_,h2⟩
      ·cases hl
     obtain ⟨ri,hri,csi,Ti,hbi⟩:=blk i li
     obtain ⟨rj,hrj,csj,Tj,hbj⟩:=blk j lj
     have key:∀b1 o1 b2 o2,a.eval x=.pointer (some ⟨b1,o1,none⟩)->a.eval y=.pointer (some ⟨b2,o2,none⟩)->b1≠b2->b1=ri.1->b2=rj.1->∃u,(do eqGuard op t x y (a.eval x) (a.eval y);binOp op t (a.eval x) (a.eval y)).run P w=.ok u w/\VRel (Mut mo own) own.rho w (.bool neg) u:=by
      intro b1 o1 b2 o2 ex ey hne q1 q2
      rw [ex,ey]
      exact ptr_ne_run t p hu hp b1 o1 b2 o2 hne (by rw [q1];exact hbi) (by rw [q2];exact hbj) x y op neg hop'
     have hxx:∃C,own.rho i=some (ri.1,C):=⟨_,Own.aj0 hri⟩
     have hyy:∃C,own.rho j=some (rj.1,C):=⟨_,Own.aj0 hrj⟩
     obtain ⟨u,u1,u2⟩:∃u,(do eqGuard op t x y (a.eval x) (a.eval y);binOp op t (a.eval x) (a.eval y)).run P w=.ok u w/\VRel (Mut mo own) own.rho w (.bool neg) u:=by
      generalize a.eval x=x' at hxv key ⊢
      generalize a.eval y=y' at hyv key ⊢
      cases hxv with
      | obj _ _ b1 h1=>
       cases hyv with
       | obj _ _ b2 h2=>
        obtain ⟨C,hC⟩:=hxx
        obtain ⟨C',hC'⟩:=hyy
        rw [h1] at hC
        rw [h2] at hC'
        injection hC with hC
        injection hC' with hC'
        have q1:b1=ri.1:=congrArg Prod.fst hC
        have q2:b2=rj.1:=congrArg Prod.fst hC'
        refine key _ _ _ _ rfl rfl (fun e=>?_) q1 q2
        have:=h.sr.base.inj (.obj i) ri (.obj j) rj rfl rfl hri hrj (by rw [←q1,←q2,e])
        injection this with this
        exact hij this
     exact .same h (ah9 u1) (XRel.of u2) trivial
   ·cases hv
  obtain ⟨v,hv,e⟩:=Option.map_eq_some_iff.1 hr
  injection e with e1 e2;subst e1;subst e2
  unfold binO at hv
  split at hv
  ·rename_i v' hn
   simp only [Option.some.injEq] at hv
   subst hv
   unfold as8 at hn
   split at hn
   ·rename_i ms hu hx
    have hxv:=(h.ev x).1
    rw [hx] at hxv
    have hxe:a.eval x=.nilIface:=by
     generalize a.eval x=z at hxv
     cases hxv;rfl
    cases hy:aF1 y with
    | false=>rw [hy] at hn;cases hn
    | true=>
     rw [hy] at hn
     simp only [cond_true] at hn
     have hyc:y=.const .nilIface:=by
      unfold aF1 at hy
      split at hy
      ·rfl
      ·cases hy
     subst hyc
     have hye:a.eval (.const .nilIface)=.nilIface:=rfl
     have he:(Op.equal t .nilIface .nilIface).run P w=.ok true w:=by
      show (Op.equalIn (9999+1) t .nilIface .nilIface).run P w=_
      rw [Op.equalIn,ab3 (run_underlying hu w)]
      rfl
     have hb:∃b,v'=.bool b/\(binOp op t .nilIface .nilIface).run P w=.ok (.bool b) w/\(eqGuard op t x (.const .nilIface) .nilIface .nilIface).run P w=.ok () w:=by
      cases op with
      | eql=>
       simp only [Option.some.injEq] at hn
       exact ⟨true,hn.symm,by rw [(binOp_eql t .nilIface .nilIface rfl).1,ab3 he];rfl,by unfold eqGuard;simp []⟩
      | neq=>
       simp only [Option.some.injEq] at hn
       exact ⟨false,hn.symm,by rw [(binOp_eql t .nilIface .nilIface rfl).2,ab3 he];rfl,by unfold eqGuard;simp []⟩
      | _=>cases hn
     obtain ⟨b,rfl,hb1,hb2⟩:=hb
     refine .same h (ah9 (S:=do eqGuard op t x (.const .nilIface) (a.eval x) (a.eval (.const .nilIface));binOp op t (a.eval x) (a.eval (.const .nilIface))) ?_) (XRel.of (.bool b)) trivial
     rw [hxe,hye]
     exact (ab3 hb2).trans hb1
   ·cases hn
  ·obtain ⟨u,u1,u2⟩:=binV_run op t _ _ v hv _ _ (h.ev x).1 (h.ev y).1 x y
   exact .same h (ah9 u1) (XRel.of u2) trivial
 | unOp op t x=>
  simp only [opV] at hr
  obtain ⟨v,hv,e⟩:=Option.map_eq_some_iff.1 hr
  injection e with e1 e2;subst e1;subst e2
  obtain ⟨u,u1,u2⟩:=unV_run (P:=P) op _ v hv _ (h.ev x).1
  exact .same h (ah9 u1) (XRel.of u2) trivial
 | convert s t x=>
  simp only [opV] at hr
  obtain ⟨v,hv,e⟩:=Option.map_eq_some_iff.1 hr
  injection e with e1 e2;subst e1;subst e2
  obtain ⟨u,u1,u2⟩:=convV_run s t _ v hv _ (h.ev x).1
  exact .same h (ah9 u1) (XRel.of u2) trivial
 | alloc t=>
  simp only [opV] at hr
  obtain ⟨z,hz,hq⟩:=Option.bind_eq_some_iff.1 hr
  obtain ⟨i,zv,hi,hiz,rfl⟩:=an4 hz
  have hg:=bb1 hq
  obtain ⟨y,w',own',u1,u2,u3,u4,u5⟩:=bq0 h f dst t _ zv (am5 (ag6 (Mut mo own) own w zv) hg).1 (am5 (ag6 (Mut mo own) own w zv) hg).2 r st' hq
  have hzr:(zeroValue t).run P w=.ok zv w:=by simp [zeroValue,typeInfo,hi,hiz]
  refine ⟨_,w',own',.inl (ah9 (S:=Instr.alloc t true (.tuple #[])) ?_),u2,u3,by rw [u4];trivial,u5⟩
  unfold Instr.alloc
  refine (ab3 hzr).trans ?_
  exact (ab3 u1).trans rfl
 | box t x=>
  simp only [opV] at hr
  have hg:=bb1 hr
  have hx:=h.ev x
  obtain ⟨y,w',own',u1,u2,u3,u4,u5⟩:=bq0 h f dst t _ (a.eval x) (am5 hx.1 hg).1 (am5 hx.1 hg).2 r st' hr
  exact ⟨_,w',own',.inl (ah9 (S:=Instr.box t (a.eval x)) ((ab3 u1).trans rfl)),u2,u3,by rw [u4];trivial,u5⟩
 | build t parts=>
  simp only [opV] at hr
  obtain ⟨v,hv,e⟩:=Option.map_eq_some_iff.1 hr
  injection e with e1 e2;subst e1;subst e2
  obtain ⟨u,u1,u2⟩:=buildV_run (P:=P) t _ (parts.map fun (i,x)=>(i,a.eval x)) (by simp) (ba7 h parts) v hv
  exact .same h (ah9 u1) (XRel.of u2) trivial
 | buildSlice t n parts=>
  simp only [opV] at hr
  split at hr
  ·rename_i e ht
   obtain ⟨z,hz,hq⟩:=Option.bind_eq_some_iff.1 hr
   obtain ⟨hc,hq⟩:=aa2 hq
   simp at hc
   obtain ⟨⟨⟨h1,h2⟩,h3⟩,h4⟩:=hc
   obtain ⟨es,hes,e5⟩:=Option.map_eq_some_iff.1 hq
   unfold mkS at e5
   cases htk:H.take f dst with
   | false=>
    rw [htk] at e5
    injection e5 with e1 e2;subst e1;subst e2
    obtain ⟨u,w',u1,u2,u3,u4⟩:=buildSlice_run h t e ht n z hz h1 h2 h3 h4 _ (parts.map fun (i,x)=>(i,a.eval x)) (by simp) (ba7 h parts) es hes
    exact ⟨u,w',own,.inl (ah9 u1),u2,u3,u4,rfl⟩
   | true=>
    rw [htk] at e5
    injection e5 with e1 e2;subst e1;subst e2
    obtain ⟨u,w',own',u1,u2,u3⟩:=bA2 h t e ht n z hz h1 h2 h3 h4 _ (parts.map fun (i,x)=>(i,a.eval x)) (by simp) (ba7 h parts) es hes
    exact ⟨u,w',own',.inl (ah9 u1),u2,u3,trivial,rfl⟩
  ·simp at hr
 | load t p=>
  simp only [opV] at hr
  obtain ⟨x,own',u1,u2,u3,u4,u5,_⟩:=bx1 h f dst t _ _ (h.ev p).1 r st' hr
  exact ⟨x,w,own',.inl (ah9 u1),u2,u3,u4,u5⟩
 | store t p x=>
  simp only [opV] at hr
  obtain ⟨st2,hs,e⟩:=Option.map_eq_some_iff.1 hr
  injection e with e1 e2;subst e1;subst e2
  obtain ⟨w',own',u1,u2,u3⟩:=storeV_run h t _ _ (h.ev p).1 _ _ (h.ev x).1 (h.ev x).2 st2 hs
  exact ⟨undef,w',own',.inr ⟨bz0 u1,rfl⟩,u2,trivial,trivial,u3⟩
 | nilCheck x=>
  simp only [opV] at hr
  have hx:=(h.ev x).1
  generalize hz:a.eval x=z at hx
  split at hr
  ·rename_i i p e
   simp only [Option.some.injEq] at hr
   injection hr with e1 e2;subst e1;subst e2
   rw [e] at hx
   cases hx with
   | obj _ _ b hb=>exact .same h (by simp only [execOp,hz];rfl) (XRel.of (.obj _ _ b hb)) trivial
  ·rename_i i p e
   simp only [Option.some.injEq] at hr
   injection hr with e1 e2;subst e1;subst e2
   rw [e] at hx
   obtain ⟨b,n,h1,rfl⟩:=hx
   exact .same h (by simp only [execOp,hz];rfl) ⟨b,n,h1,rfl⟩ trivial
  ·rename_i cs e
   simp only [Option.some.injEq] at hr
   injection hr with e1 e2;subst e1;subst e2
   rw [e] at hx
   cases hx with
   | ref _ b o g h1 h2 h3=>exact .same h (by simp only [execOp,hz];rfl) (XRel.of (.ref _ b o g h1 h2 h3)) trivial
  ·simp at hr
 | makeInterface t x=>
  simp only [opV] at hr
  have hx:=(h.ev x).1
  split at hr<;>try (simp at hr;done)
  rename_i v0 n1 n2 n3 n4 n5
  simp only [Option.some.injEq] at hr
  injection hr with e1 e2;subst e1;subst e2
  cases hd:P.underlying t with
  | none=>exact absurd hd n2
  | some d=>
   have hv:VRel (Mut mo own) own.rho w (ev H st x).1 (a.eval x):=hx.to n3 n4
   refine .same h (ah9 (S:=Instr.makeInterface t (a.eval x)) (x:=.iface t (a.eval x)) ?_) (XRel.of (.iface _ _ _ hv)) trivial
   unfold Instr.makeInterface
   refine (ab3 (run_underlying hd w)).trans ?_
   cases d<;>first | rfl | exact absurd hd (n1 _)
 | makeFunc fn first cap=>
  simp only [opV] at hr
  obtain ⟨hg,hr⟩:=aa2 hr
  simp at hg
  simp only [Option.some.injEq] at hr
  injection hr with e1 e2;subst e1;subst e2
  refine .same h (ah9 (S:=Instr.makeFunc fn (first.map a.eval) (cap.map a.eval)) rfl) (XRel.of (.func fn _ _ _ _ (by simp [evs]) (by simp [evs]) (fun j p q hp hq=>?_) (fun j p q hp hq=>?_))) trivial
  ·obtain ⟨o,ho,rfl⟩:=bz1 _ _ _ hp
   have hgo:=ap9 _ _ _ hg.1 hp
   rw [Array.getElem?_map,show first[j]? =some o by simpa using ho] at hq
   simp at hq
   subst hq
   exact (h.ev o).1.good hgo
  ·obtain ⟨o,ho,rfl⟩:=bz1 _ _ _ hp
   have hgo:=ap9 _ _ _ hg.2 hp
   rw [Array.getElem?_map,show cap[j]? =some o by simpa using ho] at hq
   simp at hq
   subst hq
   exact (h.ev o).1.good hgo
 | makeMap t rs=>
  cases rs with
  | some _=>simp [opV] at hr
  | none=>
   simp only [opV,Option.some.injEq] at hr
   injection hr with e1 e2;subst e1;subst e2
   obtain ⟨w',own',u1,u2,u3⟩:=makeMap_run h t
   exact ⟨_,w',own',.inl (ah9 u1),u2,u3,trivial,rfl⟩
 | makeSlice t l c=>
  simp only [opV] at hr
  split at hr
  ·rename_i e ht
   obtain ⟨l',hl,hq⟩:=Option.bind_eq_some_iff.1 hr
   obtain ⟨c',hc,hq⟩:=Option.bind_eq_some_iff.1 hq
   obtain ⟨z,hz,hq⟩:=Option.bind_eq_some_iff.1 hq
   obtain ⟨hk,hq⟩:=aa2 hq
   simp at hk
   split at hq
   ·rename_i hb
    simp only [Option.some.injEq] at hq
    unfold fresh at hq
    injection hq with e1 e2;subst e1;subst e2
    obtain ⟨kl,el⟩:=aD9 hl (h.ev l).1
    obtain ⟨kc,ec⟩:=aD9 hc (h.ev c).1
    obtain ⟨u,w',own',u1,u2,u3,u4⟩:=makeSlice_run h t e ht z hz hk.1.1 hk.1.2 hk.2 kl kc l' c' hb.1 hb.2.1 hb.2.2.1 hb.2.2.2
    exact ⟨u,w',own',.inl (ah9 (S:=Instr.makeSlice t (a.eval l) (a.eval c)) (by rw [el,ec];exact u1)),u2,u3,u4,rfl⟩
   ·simp at hq
  ·simp at hr
 | slice t x lo hi mx=>
  simp only [opV] at hr
  have hx:=h.ev x
  split at hr
  ·rename_i s tag ht e
   rw [e] at hx
   split at hr
   ·rename_i emx
    obtain ⟨v,hv,e5⟩:=Option.map_eq_some_iff.1 hr
    injection e5 with e1 e2;subst e1;subst e2
    generalize hz:a.eval x=z at hx
    have hz2:z=.string s:=by cases hx.1;rfl
    subst hz2
    obtain ⟨u,u1,u2⟩:=sliceS_run (P:=P) t ht s _ _ none v hv _ _ (bh6 h lo) (bh6 h hi)
    exact .same h (ah9 (S:=Instr.sliceAt t (a.eval x) (lo.map a.eval) (hi.map a.eval) (Option.map a.eval none)) (by rw [hz];exact u1)) (XRel.of u2) trivial
   ·simp at hr
  ·rename_i e nn k es tag ht ex
   rw [ex] at hx
   obtain ⟨hk0,hr⟩:=aa2 hr
   obtain ⟨v,hv,e5⟩:=Option.map_eq_some_iff.1 hr
   injection e5 with e1 e2;subst e1;subst e2
   rw [Bool.and_eq_true] at hk0
   have hk:k=P.cellsOf e∨nn=false:=by simpa using hk0.1
   obtain ⟨i,hi2⟩:=Option.isSome_iff_exists.1 hk0.2
   obtain ⟨u,u1,u2,u3⟩:=sliceL_run (P:=P) t e ht i hi2 nn k es (bif H.take f dst then .no else tag) _ _ _ v hv (fun hnn=>hk.resolve_right (by simp [hnn])) _ hx.1 st.l st.g (by cases H.take f dst with | true=>trivial | false=>exact hx.2) _ _ _ (bh6 h lo) (bh6 h hi) (bh6 h mx)
   exact .same h (ah9 u1) (XRel.of u2) u3
  ·rename_i e id off k n c tag ht ex
   rw [ex] at hx
   obtain ⟨hk0,hr⟩:=aa2 hr
   obtain ⟨v,hv,e5⟩:=Option.map_eq_some_iff.1 hr
   injection e5 with e1 e2;subst e1;subst e2
   rw [Bool.and_eq_true] at hk0
   have hk:k=P.cellsOf e:=by simpa using hk0.1
   obtain ⟨i,hi2⟩:=Option.isSome_iff_exists.1 hk0.2
   obtain ⟨u,u1,u2,u3⟩:=sloL_run (P:=P) t e ht i hi2 id off k n c _ _ _ v hv hk _ hx.1 st.l st.g _ _ _ (bh6 h lo) (bh6 h hi) (bh6 h mx)
   exact .same h (ah9 u1) (XRel.of u2) u3
  ·simp at hr
 | fieldAddr s x i=>
  simp only [opV] at hr
  obtain ⟨o,ho,hq⟩:=Option.bind_eq_some_iff.1 hr
  obtain ⟨h0,hq⟩:=aa2 hq
  simp at h0
  have hx:=(h.ev x).1
  generalize hz:a.eval x=z at hx
  have hrun:∀(b p:Nat),z=.pointer (some ⟨b,p,none⟩)->∀o2:Oper,o2.op=.fieldAddr s x i->(execOp a.eval o2).run P w=.ok (.value (.pointer (some ⟨b,p+o.1,none⟩))) w:=by
   intro b p e o2 ho2
   simp only [execOp,ho2,hz,e]
   exact ah9 (fieldAt_run (o:=o.1) (t:=o.2) ho h0 b p)
  split at hq
  ·rename_i cs e
   simp only [Option.some.injEq] at hq
   injection hq with e1 e2;subst e1;subst e2
   rw [e] at hx
   obtain ⟨b,p,rfl,h2⟩:=bv3 o.1 hx
   exact .same h (hrun b p rfl _ rfl) (XRel.of h2) trivial
  ·rename_i j p e
   simp only [Option.some.injEq] at hq
   injection hq with e1 e2;subst e1;subst e2
   rw [e] at hx
   obtain ⟨b,n,h1,rfl⟩:=hx
   exact .same h (hrun b p rfl _ rfl) ⟨b,n,h1,rfl⟩ trivial
  ·rename_i j p e
   simp only [Option.some.injEq] at hq
   injection hq with e1 e2;subst e1;subst e2
   rw [e] at hx
   cases hx with
   | obj _ _ b hb=>exact .same h (hrun b p rfl _ rfl) (XRel.of (.obj _ _ b hb)) trivial
  ·simp at hq
 | field s x i=>
  simp only [opV] at hr
  obtain ⟨o,ho,hq⟩:=Option.bind_eq_some_iff.1 hr
  have hx:=(h.ev x).1
  split at hq
  ·rename_i cs e
   obtain ⟨v,hv,e5⟩:=Option.map_eq_some_iff.1 hq
   injection e5 with e1 e2;subst e1;subst e2
   rw [e] at hx
   obtain ⟨u,u1,u2⟩:=field_run (o:=o.1) (t:=o.2) ho cs v hv _ hx
   exact .same h (ah9 u1) (XRel.of u2) trivial
  ·simp at hq
 | indexAddr t x i=>
  simp only [opV] at hr
  obtain ⟨v,hv,e⟩:=Option.map_eq_some_iff.1 hr
  injection e with e1 e2;subst e1;subst e2
  obtain ⟨u,u1,u2⟩:=indexAddrV_run (P:=P) t _ _ v hv _ _ (h.ev x).1 (h.ev i).1
  exact .same h (ah9 u1) u2 trivial
 | index t x i=>
  simp only [opV] at hr
  obtain ⟨v,hv,e⟩:=Option.map_eq_some_iff.1 hr
  injection e with e1 e2;subst e1;subst e2
  obtain ⟨u,u1,u2⟩:=indexV_run (P:=P) t _ _ v hv _ _ (h.ev x).1 (h.ev i).1
  exact .same h (ah9 u1) (XRel.of u2) trivial
 | lookup t m k ok=>
  simp only [opV] at hr
  split at hr
  ·rename_i kt e ht
   obtain ⟨hk,hq⟩:=aa2 hr
   obtain ⟨es,hes,hq⟩:=Option.bind_eq_some_iff.1 hq
   obtain ⟨r0,hr0,hq⟩:=Option.bind_eq_some_iff.1 hq
   obtain ⟨z,hz,hq⟩:=Option.bind_eq_some_iff.1 hq
   obtain ⟨hgz,hq⟩:=aa2 hq
   simp only [Option.some.injEq] at hq
   injection hq with e1 e2;subst e1;subst e2
   obtain ⟨u,u1,u2⟩:=lookup_run h t kt e ht _ _ hk es hes r0 hr0 z hz _ _ (h.ev m).1 (h.ev k).1 ok (by rintro rfl;simp [as6] at hgz)
   exact .same h (ah9 u1) (by cases ok<;>simpa using u2) trivial
  ·simp at hr
 | mapUpdate t m k x=>
  simp only [opV] at hr
  obtain ⟨w',own',u1,u2,u3,rfl⟩:=upd t m k x hr
  exact ⟨undef,w',own',.inr ⟨bz0 u1,rfl⟩,u2,trivial,trivial,u3⟩
 | insert t m k x=>
  simp only [opV] at hr
  obtain ⟨w',own',u1,u2,u3,rfl⟩:=upd t m k x hr
  exact ⟨undef,w',own',.inr ⟨bz0 u1,rfl⟩,u2,trivial,trivial,u3⟩
 | mapEntry t m k=>
  simp only [opV,aC6] at hr
  have hm:=(h.ev m).1
  generalize hz:a.eval m=z at hm
  split at hr
  ·rename_i kt e id ht em
   obtain ⟨hk,hq⟩:=aa2 hr
   obtain ⟨es,hes,hq⟩:=Option.bind_eq_some_iff.1 hq
   obtain ⟨z0,hz0,hq⟩:=Option.bind_eq_some_iff.1 hq
   obtain ⟨hgz,hq⟩:=aa2 hq
   obtain ⟨f0,hf0,hq⟩:=Option.bind_eq_some_iff.1 hq
   obtain ⟨es',hes',hq⟩:=Option.bind_eq_some_iff.1 hq
   obtain ⟨i,hi,e5⟩:=Option.map_eq_some_iff.1 hq
   injection e5 with e1 e2;subst e1;subst e2
   rw [em] at hm
   obtain ⟨x,w',u1,u2,u3⟩:=mapEntry_run h t kt e ht id _ hk es hes z0 hz0 (by rintro rfl;simp [as6] at hgz) f0 hf0 es' hes' i hi z _ hm (h.ev k).1
   refine ⟨_,w',own,.inl (ah9 (by rw [hz];exact u1)),u2,XRel.of (.tup _ _ rfl fun j p q hp hq=>?_),trivial,rfl⟩
   match j with
   | 0=>simp at hp hq;subst hp;subst hq;exact u3
   | 1=>simp at hp hq;subst hp;subst hq;exact .int _ _
   | j+2=>simp at hp
  ·simp at hr
 | entryStore t m s x=>
  simp only [opV,aD2] at hr
  have hm:=(h.ev m).1
  have hs:=(h.ev s).1
  generalize hz:a.eval m=z at hm
  generalize hzs:a.eval s=zs at hs
  split at hr
  ·rename_i id n em en
   obtain ⟨hk,hq⟩:=aa2 hr
   obtain ⟨es,hes,hq⟩:=Option.bind_eq_some_iff.1 hq
   obtain ⟨h0,hq⟩:=aa2 hq
   obtain ⟨kv,hkv,e5⟩:=Option.map_eq_some_iff.1 hq
   injection e5 with e1 e2;subst e1;subst e2
   rw [em] at hm
   rw [en] at hs
   cases hs
   have hxv:VRel (Mut mo own) own.rho w (E.ev H st x).1 (a.eval x):=(h.ev x).1.to (by rintro e;rw [e] at hk;simp at hk) (by rintro i o e;rw [e] at hk;simp at hk)
   obtain ⟨w',u1,u2⟩:=entryStore_run h t id _ es hes n.toNat kv hkv z _ hm hxv
   rw [Int.toNat_of_nonneg (of_decide_eq_true h0)] at u1
   exact ⟨undef,w',own,.inr ⟨bz0 (by rw [hz,hzs];exact u1),rfl⟩,u2,trivial,trivial,rfl⟩
  ·simp at hr
 | typeAssert x xt t ok=>
  simp only [opV] at hr
  have hx:=(h.ev x).1
  generalize hz:a.eval x=z at hx
  have fail:∀(r:V×Tag) (st':St) (hr:(if ok=true then (zeroV P t).bind fun z=>ck (as6 z) (some ((V.tup [z,.bool false],Tag.no),st)) else none)=some (r,st')) (i:TypeId->Option TypeId->Sem Value),
    ∃zv z0,ok=true/\st'=st/\zeroV P t=some z0/\(zeroValue t).run P w=.ok zv w/\r=(.tup [z0,.bool false],.no)/\VRel (Mut mo own) own.rho w z0 zv:=by
   intro r st' hr _
   cases ok with
   | false=>simp at hr
   | true=>
    simp only [if_true] at hr
    obtain ⟨z0,hz0,hq⟩:=Option.bind_eq_some_iff.1 hr
    obtain ⟨hd,hq⟩:=aa2 hq
    simp only [Option.some.injEq] at hq
    injection hq with e1 e2
    obtain ⟨i,zv,hi,hiz,rfl⟩:=an4 hz0
    exact ⟨zv,_,rfl,e2.symm,hz0,by simp [zeroValue,typeInfo,hi,hiz],e1.symm,zero_rel (e:=t) (by rintro e;rw [e] at hd;simp [as6] at hd)⟩
  have pair:∀(z0:V) (zv:Value) (b:Bool),VRel (Mut mo own) own.rho w z0 zv->VRel (Mut mo own) own.rho w (.tup [z0,.bool b]) (.tuple #[zv,.bool b]):=by
   intro z0 zv b hv
   refine .tup _ _ rfl fun j p q hp hq=>?_
   match j with
   | 0=>simp at hp hq;subst hp;subst hq;exact hv
   | 1=>simp at hp hq;subst hp;subst hq;exact .bool b
   | j+2=>simp at hp
  split at hr<;>try (simp at hr;done)
  ·rename_i t' v e n1 n2
   rw [e] at hx
   cases hd:P.underlying t with
   | none=>exact absurd hd n2
   | some d=>
    have hni:∀ms,d≠.interface ms:=fun ms q=>n1 ms (by rw [hd,q])
    cases hx with
    | iface _ _ v' hv=>
    split at hr
    ·rename_i et
     subst et
     simp only [Option.some.injEq] at hr
     injection hr with e1 e2;subst e1;subst e2
     refine .same h (ah9 (S:=Instr.typeAssert (a.eval x) xt t' ok) (by rw [hz];exact assert_yes t' xt d hd hni v' ok)) ?_ trivial
     cases ok with
     | true=>exact XRel.of (pair v v' true hv)
     | false=>exact XRel.of hv
    ·rename_i et
     obtain ⟨zv,z0,rfl,rfl,_,q2,rfl,q3⟩:=fail r st' hr (fun _ _=>pure undef)
     exact .same h (ah9 (S:=Instr.typeAssert (a.eval x) xt t true) (by rw [hz];exact assert_no t t' xt d hd hni v' zv et q2)) (XRel.of (pair z0 zv false q3)) trivial
  ·rename_i e n1 n2
   rw [e] at hx
   cases hd:P.underlying t with
   | none=>exact absurd hd n2
   | some d=>
    have hni:∀ms,d≠.interface ms:=fun ms q=>n1 ms (by rw [hd,q])
    cases hx
    obtain ⟨zv,z0,rfl,rfl,_,q2,rfl,q3⟩:=fail r st' hr (fun _ _=>pure undef)
    exact .same h (ah9 (S:=Instr.typeAssert (a.eval x) xt t true) (by rw [hz];exact assert_nil t xt d hd hni zv q2)) (XRel.of (pair z0 zv false q3)) trivial
 | extract t i=>
  simp only [opV] at hr
  have hx:=(h.ev t).1
  generalize hz:a.eval t=z at hx
  split at hr
  ·rename_i vs e
   obtain ⟨v,hv,e5⟩:=Option.map_eq_some_iff.1 hr
   injection e5 with e1 e2;subst e1;subst e2
   rw [e] at hx
   cases hx with
   | tup _ vs' hs hh=>
   have hlt:i<vs'.size:=by rw [hs];exact (List.getElem?_eq_some_iff.1 hv).1
   have hq:vs'[i]? =some vs'[i]:=Array.getElem?_eq_getElem hlt
   exact .same h (ah9 (S:=Instr.extract (a.eval t) i) (by rw [hz];simp [Instr.extract,hq])) (XRel.of (hh i v _ hv hq)) trivial
  ·simp at hr
 | call c=>
  simp only [opV] at hr
  split at hr
  ·rename_i b hb
   have hexec:(execOp a.eval ⟨d,.call c,ty,pos,after,guard⟩).run P w=(builtin b c.argTypes ty (c.args.map fun | .const _=>true | _=>false) (c.args.map a.eval)).run P w:=by
    simp only [execOp]
    unfold resolve
    rw [hb]
    rfl
   have hargs:∀(j:Nat) (p:V×Tag) (q:Value),(c.args.toList.map (E.ev H st))[j]? =some p->(c.args.map a.eval)[j]? =some q->XRel (Mut mo own) own w p.1 q/\TRel own st.l st.g p.1 p.2 q:=by
    intro j p q hp hq
    rw [List.getElem?_map] at hp
    obtain ⟨o,ho,rfl⟩:=Option.map_eq_some_iff.1 hp
    rw [Array.getElem?_map,show c.args[j]? =some o by simpa using ho] at hq
    simp at hq
    subst hq
    exact h.ev o
   have hsz:(c.args.map a.eval).size=(c.args.toList.map (E.ev H st)).length:=by simp
   generalize c.args.toList.map (E.ev H st)=l at hr hargs hsz
   generalize hl':c.args.map a.eval=l' at hexec hargs hsz
   have two:∀x y,l=[x,y]->∃x' y',l'= #[x',y']:=by
    rintro x y rfl
    obtain ⟨l'⟩:=l'
    match l',hsz with
    | [p,q],_=>exact ⟨p,q,rfl⟩
   unfold aj4 at hr
   split at hr
   ·rename_i x
    obtain ⟨t,h0,hq⟩:=Option.bind_eq_some_iff.1 hr
    obtain ⟨v,hv,e5⟩:=Option.map_eq_some_iff.1 hq
    injection e5 with e1 e2;subst e1;subst e2
    obtain ⟨x',rfl⟩:∃x',l'= #[x']:=by
     obtain ⟨l'⟩:=l'
     match l',hsz with
     | [p],_=>exact ⟨p,rfl⟩
    obtain ⟨u,u1,u2⟩:=lenV_run h c.argTypes t ty h0 _ v hv x' (hargs 0 x x' rfl rfl).1
    exact .same h (by rw [hexec];exact ah9 u1) (XRel.of u2) trivial
   ·rename_i s x
    obtain ⟨t,h0,hq⟩:=Option.bind_eq_some_iff.1 hr
    obtain ⟨t2,h1,hq⟩:=Option.bind_eq_some_iff.1 hq
    obtain ⟨s',x',rfl⟩:=two s x rfl
    have a1:=hargs 0 s s' rfl rfl
    have a2:=hargs 1 x x' rfl rfl
    split at hq
    ·rename_i e e2 ht ht2
     obtain ⟨u,w',own',u1,u2,u3,u4,u5⟩:=bh3 h _ t t2 ty e _ ht ht2 (.inl ⟨_,rfl⟩) s x.1 s' x' a1.1 a1.2 a2.1 r st' hq
     exact ⟨u,w',own',.inl (by rw [hexec];refine ah9 (S:=Builtin.append_ c.argTypes ty #[s',x']) ?_;rw [bh2 _ t t2 ty h0 h1];exact u1),u2,u3,u4,u5⟩
    ·rename_i e ht ht2
     obtain ⟨u,w',own',u1,u2,u3,u4,u5⟩:=bh3 h _ t t2 ty e _ ht ht2 (.inr rfl) s x.1 s' x' a1.1 a1.2 a2.1 r st' hq
     exact ⟨u,w',own',.inl (by rw [hexec];refine ah9 (S:=Builtin.append_ c.argTypes ty #[s',x']) ?_;rw [bh2 _ t t2 ty h0 h1];exact u1),u2,u3,u4,u5⟩
    ·simp at hq
   ·rename_i s
    obtain ⟨t,h0,hq⟩:=Option.bind_eq_some_iff.1 hr
    obtain ⟨s',rfl⟩:∃s',l'= #[s']:=by
     obtain ⟨l'⟩:=l'
     match l',hsz with
     | [p],_=>exact ⟨p,rfl⟩
    split at hq
    ·rename_i e ht
     obtain ⟨u,w',own',u1,u2,u3,u4,u5⟩:=clearV_run h t ty e ht _ s' (hargs 0 s s' rfl rfl).1 r st' hq
     exact ⟨u,w',own',.inl (by rw [hexec];refine ah9 (S:=Builtin.clear_ c.argTypes ty #[s']) ?_;rw [clear_args _ t ty h0];exact u1),u2,u3,u4,u5⟩
    ·simp at hq
   ·obtain ⟨v,hv,e5⟩:=Option.map_eq_some_iff.1 hr
    injection e5 with e1 e2;subst e1;subst e2
    obtain ⟨u,u1,u2⟩:=bq2 (P:=P) false _ v hv l' (by simpa using hsz) (fun j p q hp hq=>by
     rw [List.getElem?_map] at hp
     obtain ⟨z,hz,rfl⟩:=Option.map_eq_some_iff.1 hp
     exact (hargs j z q hz hq).1) c.argTypes ty
    exact .same h (by rw [hexec];exact ah9 u1) (XRel.of u2) trivial
   ·obtain ⟨v,hv,e5⟩:=Option.map_eq_some_iff.1 hr
    injection e5 with e1 e2;subst e1;subst e2
    obtain ⟨u,u1,u2⟩:=bq2 (P:=P) true _ v hv l' (by simpa using hsz) (fun j p q hp hq=>by
     rw [List.getElem?_map] at hp
     obtain ⟨z,hz,rfl⟩:=Option.map_eq_some_iff.1 hp
     exact (hargs j z q hz hq).1) c.argTypes ty
    exact .same h (by rw [hexec];exact ah9 u1) (XRel.of u2) trivial
   ·simp at hr
  ·simp at hr
 | _=>simp [opV] at hr
end
end Go.Proofs.YtnpjififnhjbbaaDoor.E
namespace Go.Proofs.YtnpjififnhjbbaaDoor.E
open Go
def Key.ah6 :Key->Bool | .obj _ | .spare _ _ | .ghost _=>true | _=>false
theorem Key.bx4 {k:Key}(h:k.ah6=false):k.live=true:=by cases k<;>first | rfl | cases h
def Own.sh (o:Own):Own:=fun k=>if k.ah6 then o k else none
def moIn (mo:Nat->Nat->Prop)(o:Own)(b x:Nat):Prop:=mo b x∨∃k r,k.ah6=false/\o k=some r/\Reg.has r b x
theorem Own.am6 {o:Own}{k:Key}{r:Reg}(h:o.sh k=some r):o k=some r/\k.ah6=true:=by
 unfold Own.sh at h
 split at h
 ·exact ⟨h,by assumption⟩
 ·cases h
theorem Own.sh_rho (o:Own):o.sh.rho=o.rho:=by funext i;rfl
theorem aG3 (mo:Nat->Nat->Prop)(o:Own)(b x:Nat):Mut (moIn mo o) o.sh b x↔Mut mo o b x:=by
 constructor
 ·rintro ((h | ⟨k,r,_,h1,h2⟩) | ⟨k,r,h1,h2⟩)
  ·exact .inl h
  ·exact .inr ⟨k,r,h1,h2⟩
  ·exact .inr ⟨k,r,(Own.am6 h1).1,h2⟩
 ·rintro (h | ⟨k,r,h1,h2⟩)
  ·exact .inl (.inl h)
  ·by_cases q:k.ah6=true
   ·exact .inr ⟨k,r,by unfold Own.sh;rw [if_pos q];exact h1,h2⟩
   ·exact .inl (.inr ⟨k,r,by simpa using q,h1,h2⟩)
def Own.join (o' o:Own)(g:Nat):Own:=fun k=>if k=.tok g then o' (.tok 0) else if k.ah6 then o' k else o k
def Glob (H:ae2)(M:Nat->Nat->Prop)(ρ:Nat->Option (Nat×Nat))(w:World):Prop:=
 ∀(g:Nat) (cs:List V),H.glob g=some cs->∃f:Nat->Value,ac5 cs=true/\(∀(j:Nat) (x:V),cs[j]? =some x->w.cell? ⟨g,j,none⟩=some (f j)/\¬M g j)/\∀(j:Nat) (x:V),cs[j]? =some x->VRel M ρ w x (f j)
def Args (M:Nat->Nat->Prop)(ρ:Nat->Option (Nat×Nat))(w:World)(vs:List V)(xs:Array Value):Prop:=
 xs.size=vs.length/\∀(j:Nat) (v:V) (x:Value),vs[j]? =some v->xs[j]? =some x->VRel M ρ w v x
def RoomOk (own':Own)(v:V)(x:Value):Prop:=
 ∀k es b o n c,v=.list true k es->x=.slice (some ⟨b,o,none⟩) n c->c=n∨own' (.tok 0)=some (b,o+n*k,o+c*k)
structure ax1 (P:Program)(mo:Nat->Nat->Prop)(own:Own)(w:World)(own':Own)(w':World)(s':List O):Prop where
 sr:SR P mo own' s' w'
 priv:∀k,k.ah6=false->k≠.tok 0->own' k=none
 rho:∀id b,own.rho id=some b->own'.rho id=some b
 keep:Keep own.has w w'
 old:∀b x,b<w.heap.size->own'.has b x->own.has b x
 oldB:∀k r,k.live=true->own' k=some r->r.1<w.heap.size->∃k0 r0,k0.live=true/\own k0=some r0/\r0.1=r.1
def ay5 (H:ae2)(f:FuncId)(vs:List V):Bool:=(H.own f).headD false&&vs.length==1
def aF4 (P:Program)(H:ae2)(f:FuncId)(mo:Nat->Nat->Prop)(own:Own)(w:World):Out->Ending->World->Prop
 | .ret vs s',e,w'=>∃own' v',e=.returned v'/\ax1 P mo own w own' w' s'/\VRel (Mut mo own') own'.rho w' (one vs) v'/\(ay5 H f vs=false->own' (.tok 0)=none)/\(ay5 H f vs=true->RoomOk own' (one vs) v')
 | .pan v s',e,w'=>∃own' x,e=.panicked [{v:=x,recovered:=false}]/\ax1 P mo own w own' w' s'/\VRel (Mut mo own') own'.rho w' v x/\own' (.tok 0)=none
def aT6 (P:Program)(H:ae2)(f:FuncId)(r:List V->List O->Option Out):Prop:=
 ∀(args:List V) (s:List O) (out:Out),r args s=some out->∀(mo:Nat->Nat->Prop) (own:Own) (w:World) (args':Array Value),
  SR P mo own s w->(∀k,k.ah6=false->own k=none)->(∀b x,mo b x->b<w.heap.size)->Args (Mut mo own) own.rho w args args'->Glob H (Mut mo own) own.rho w ->
  Calls P f args' w (aF4 P H f mo own w out)
def OutPostY (P:Program)(mo:Nat->Nat->Prop)(own:Own)(w:World):Out->Ending->World->Prop
 | .pan _ _,_,_=>False
 | .ret vs s',e,w'=>∃own' v',e=.returned v'/\ax1 P mo own w own' w' s'/\VRel (Mut mo own') own'.rho w' (one vs) v'/\own' (.tok 0)=none
def RecOkY (P:Program)(H:ae2)(id:Nat)(r:List V->List O->Option Out):Prop:=
 ∀(args:List V) (s:List O) (out:Out),r args s=some out->∀(mo:Nat->Nat->Prop) (own:Own) (w:World) (args':Array Value) (b C:Nat),
  SR P mo own s w->(∀k,k.ah6=false->own k=none)->(∀b x,mo b x->b<w.heap.size)->Args (Mut mo own) own.rho w args args'->Glob H (Mut mo own) own.rho w->own.rho id=some (b,C) ->
  ∃f tm ca cb,(Instr.yield b args').run P w=.ok (.round b f tm ca cb) w/\RoundIn Fence.wide 0 P b f tm ca cb w (OutPostY P mo own w out)
structure aH8 (P:Program)(H:ae2)(rec:Rec):Prop where
 fn:∀f,f<P.funcs.size->aT6 P H f (rec f)
 yld:∀id,RecOkY P H id (rec (P.funcs.size+id))
section
variable {P:Program} {H:ae2} {mo:Nat->Nat->Prop} {acc:Own} {w0:World} {own:Own} {st:St} {a:Act} {w:World}
theorem aP0.to {M M':Nat->Nat->Prop}{o o':Own}{w:World}{id:Nat}{x:O}(h:aP0 P M o w id x)(hM:∀b x v,w.cell? ⟨b,x,none⟩=some v->¬M b x->¬M' b x)(hk:∀k,k.ah6=true->o' k=o k):aP0 P M' o' w id x:=by
 have hrho:o'.rho=o.rho:=by funext i;exact Own.ap7 (hk _ rfl) (hk _ rfl)
 have hv:∀{v:V} {x:Value},VRel M o.rho w v x->VRel M' o'.rho w v x:=fun h=>h.keep (fun b x v hc hm=>⟨hc,hM b x v hc hm⟩) (fun id b e=>by rw [hrho];exact e)
 cases x with
 | gone=>trivial
 | loop f ps t q pend=>
  obtain ⟨b,r,h1,h2,h3,h4,h5,h6,h7⟩:=h
  exact ⟨b,r,by rw [hk _ rfl];exact h1,h2,h3,h4,h5,h6,h7.1,fun j v x hx hy=>(h7.2 j v x hx hy).imp (fun e=>e) hv⟩
 | box box=>
  obtain ⟨b,cs,T,h1,h2,h3,h4⟩:=h
  refine ⟨b,cs,T,by rw [hk _ rfl];exact h1,h2,h3,fun j v fl x e1 e2=>⟨(h4 j v fl x e1 e2).1,hv (h4 j v fl x e1 e2).2.1,fun hf=>?_⟩⟩
  have:=(h4 j v fl x e1 e2).2.2 hf
  unfold aA6 at this ⊢
  rw [hk _ rfl]
  exact this
 | map es c=>
  obtain ⟨b,es',h1,h2,h3,h4⟩:=h
  exact ⟨b,es',by rw [hk _ rfl];exact h1,h2,h3,fun j k v e e1 e2=>⟨hv (h4 j k v e e1 e2).1,hv (h4 j k v e e1 e2).2.1,(h4 j k v e e1 e2).2.2⟩⟩
theorem FR.callee (h:FR P H mo acc w0 own st a w):SR P (moIn mo own) own.sh st.s w/\(∀k,k.ah6=false->own.sh k=none)/\(∀b x,moIn mo own b x->b<w.heap.size)/\Glob H (Mut (moIn mo own) own.sh) own.sh.rho w:=by
 have hmo:∀b x,moIn mo own b x->b<w.heap.size:=by
  rintro b x (hm | ⟨k,r,_,h1,h2⟩)
  ·exact Nat.lt_of_lt_of_le (h.mlt b x hm) h.keep.size
  ·have:=h.sr.base.lt k r h1;have:=h2.1;omega
 refine ⟨⟨⟨fun k r k' r' l l' e e' he=>h.sr.base.inj _ _ _ _ l l' (Own.am6 e).1 (Own.am6 e').1 he,fun id r e=>h.sr.base.gone id r (Own.am6 e).1,fun k r e=>h.sr.base.lt _ _ (Own.am6 e).1,fun k r b x e hx=>?_,fun k r e hr=>h.sr.base.room _ _ (Own.am6 e).1 hr⟩,fun id o ho=>?_,fun id hi=>?_,fun id off r e=>h.sr.spare id off r (Own.am6 e).1⟩,
  fun k hk=>by unfold Own.sh;rw [if_neg (by simp [hk])],hmo,fun g cs e=>?_⟩
 ·rintro (hm | ⟨k2,r2,h1,h2,h3⟩)
  ·exact h.sr.base.off _ _ _ _ (Own.am6 e).1 hx hm
  ·have:=h.sr.base.inj _ _ _ _ (h.sr.base.bx5 (Own.am6 e).1 hx) (Key.bx4 h1) (Own.am6 e).1 h2 (hx.1.trans h3.1.symm)
   subst this
   rw [(Own.am6 e).2] at h1
   cases h1
 ·exact (h.sr.objs id o ho).to (fun b x v _ hm=>by rw [aG3];exact hm) (fun k hk=>by unfold Own.sh;rw [if_pos hk])
 ·show own (.obj id)=none/\own (.ghost id)=none
  exact h.sr.newObj id hi
 ·obtain ⟨f,h1,h2,h3⟩:=h.glob g cs e
  exact ⟨f,h1,fun j x hx=>⟨(h2 j x hx).1,by rw [aG3];exact (h2 j x hx).2⟩,fun j x hx=>(h3 j x hx).keep (fun b x v hc hm=>⟨hc,by rw [aG3];exact hm⟩) (fun id b e=>e)⟩
theorem FR.after (h:FR P H mo acc w0 own st a w){own':Own}{w':World}{s':List O}(p:ax1 P (moIn mo own) own.sh w own' w' s')(hint:Bool)(hh:hint=false->own' (.tok 0)=none):
  FR P H mo acc w0 (own'.join own st.g) (if hint then {st with s:=s',g:=st.g+1,l:=st.g::st.l} else {st with s:=s'}) a w'/\(∀{v:V} {x:Value},VRel (Mut (moIn mo own) own') own'.rho w' v x->VRel (Mut mo (own'.join own st.g)) (own'.join own st.g).rho w' v x):=by
 generalize hown2:own'.join own st.g=own2
 have ht0:own (.tok st.g)=none:=h.newTok _ fun hm=>absurd (h.tokLt _ hm) (by omega)
 have hs:∀k,k.ah6=true->own2 k=own' k:=fun k q=>by
  rw [←hown2];unfold Own.join
  rw [if_neg (by rintro rfl;cases q),if_pos q]
 have hp:∀k,k.ah6=false->k≠.tok st.g->own2 k=own k:=fun k q q2=>by
  rw [←hown2];unfold Own.join
  rw [if_neg q2,if_neg (by simp [q])]
 have ht:own2 (.tok st.g)=own' (.tok 0):=by rw [←hown2];unfold Own.join;rw [if_pos rfl]
 have hrho2:own2.rho=own'.rho:=by funext i;exact Own.ap7 (hs _ rfl) (hs _ rfl)
 have hblk:∀k r,k.ah6=false->own k=some r->w'.heap[r.1]? =w.heap[r.1]? :=by
  intro k r q e
  refine p.keep.block _ (h.sr.base.lt _ _ e) fun x ⟨k2,r2,e2,hr⟩=>?_
  have:=h.sr.base.inj _ _ _ _ (Key.bx4 q) (h.sr.base.bx5 (Own.am6 e2).1 hr) e (Own.am6 e2).1 hr.1.symm
  subst this
  rw [(Own.am6 e2).2] at q
  cases q
 have hpriv:∀k r k' r',k.ah6=false->k'.live=true->own k=some r->own' k'=some r'->r.1≠r'.1:=by
  intro k r k' r' q l' e e' he
  by_cases hlt:r'.1<w.heap.size
  ·obtain ⟨k0,r0,l0,e0,e1⟩:=p.oldB k' r' l' e' hlt
   have:=h.sr.base.inj _ _ _ _ (Key.bx4 q) l0 e (Own.am6 e0).1 (he.trans e1.symm)
   subst this
   rw [(Own.am6 e0).2] at q
   cases q
  ·have:=h.sr.base.lt _ _ e;omega
 have cases2:∀k r,own2 k=some r->(k.ah6=false/\k≠.tok st.g/\own k=some r)∨(∃k',own' k'=some r/\((k=.tok st.g/\k'=.tok 0)∨(k.ah6=true/\k'=k))):=by
  intro k r e
  by_cases q1:k=.tok st.g
  ·subst q1;rw [ht] at e;exact .inr ⟨_,e,.inl ⟨rfl,rfl⟩⟩
  ·cases q:k.ah6
   ·rw [hp k q q1] at e;exact .inl ⟨rfl,q1,e⟩
   ·rw [hs k q] at e;exact .inr ⟨k,e,.inr ⟨rfl,rfl⟩⟩
 have hmut:∀b x,Mut (moIn mo own) own' b x↔Mut mo own2 b x:=by
  intro b x
  constructor
  ·rintro ((hm | ⟨k,r,q,e,hr⟩) | ⟨k,r,e,hr⟩)
   ·exact .inl hm
   ·exact .inr ⟨k,r,by rw [hp k q (by rintro rfl;rw [ht0] at e;cases e)];exact e,hr⟩
   ·cases q:k.ah6 with
    | true=>exact .inr ⟨k,r,by rw [hs k q];exact e,hr⟩
    | false=>
     by_cases q0:k=.tok 0
     ·subst q0;exact .inr ⟨_,r,by rw [ht];exact e,hr⟩
     ·rw [p.priv k q q0] at e;cases e
  ·rintro (hm | ⟨k,r,e,hr⟩)
   ·exact .inl (.inl hm)
   ·rcases cases2 k r e with ⟨q,_,e⟩ | ⟨k',e,_⟩
    ·exact .inl (.inr ⟨k,r,q,e,hr⟩)
    ·exact .inr ⟨k',r,e,hr⟩
 have hbase:Base mo own2 w':=by
  have hlv:∀{k k':Key},k.live=true->((k=.tok st.g/\k'=.tok 0)∨(k.ah6=true/\k'=k))->k'.live=true:=by
   rintro k k' l (⟨_,rfl⟩ | ⟨_,rfl⟩)
   ·rfl
   ·exact l
  refine ⟨fun k r k' r' l l' e e' he=>?_,fun id r e=>p.sr.base.gone id r (by rw [←hs _ rfl];exact e),fun k r e=>?_,fun k r b x e hx=>?_,fun k r e hr=>?_⟩
  ·rcases cases2 k r e with ⟨q,q1,e⟩ | ⟨k2,e,z⟩<;>rcases cases2 k' r' e' with ⟨q',q1',e'⟩ | ⟨k2',e',z'⟩
   ·exact h.sr.base.inj _ _ _ _ l l' e e' he
   ·exact absurd he (hpriv _ _ _ _ q (hlv l' z') e e')
   ·exact absurd he.symm (hpriv _ _ _ _ q' (hlv l z) e' e)
   ·have:=p.sr.base.inj _ _ _ _ (hlv l z) (hlv l' z') e e' he
    subst this
    rcases z with ⟨z1,z2⟩ | ⟨z1,z2⟩<;>rcases z' with ⟨z1',z2'⟩ | ⟨z1',z2'⟩
    ·rw [z1,z1']
    ·rw [z2] at z2';rw [←z2'] at z1';cases z1'
    ·rw [z2'] at z2;rw [←z2] at z1;cases z1
    ·rw [←z2,←z2']
  ·rcases cases2 k r e with ⟨q,q1,e⟩ | ⟨k2,e,z⟩
   ·exact Nat.lt_of_lt_of_le (h.sr.base.lt _ _ e) p.keep.size
   ·exact p.sr.base.lt _ _ e
  ·rcases cases2 k r e with ⟨q,q1,e⟩ | ⟨k2,e,z⟩
   ·exact h.sr.base.off _ _ _ _ e hx
   ·exact fun hm=>p.sr.base.off _ _ _ _ e hx (.inl hm)
  ·rcases cases2 k r e with ⟨q,q1,e⟩ | ⟨k2,e,z⟩
   ·obtain ⟨r1,cs,T,r2,r3⟩:=h.sr.base.room _ _ e hr
    exact ⟨r1,cs,T,(hblk k r q e).trans r2,r3⟩
   ·refine p.sr.base.room _ _ e ?_
    rcases z with ⟨_,rfl⟩ | ⟨_,rfl⟩
    ·rfl
    ·exact hr
 have post:Post mo own w own2 w' (fun k=>k.ah6=true∨k=.tok st.g):={
  keep:=p.keep.weak fun b x ⟨k,r,e,hr⟩=>⟨k,r,(Own.am6 e).1,hr⟩
  sub:=by
   rintro b x ⟨k,r,e,hr⟩
   rcases cases2 k r e with ⟨q,q1,e⟩ | ⟨k2,e,z⟩
   ·exact .inl ⟨k,r,e,hr⟩
   ·by_cases hlt:b<w.heap.size
    ·obtain ⟨k0,r0,e0,h0⟩:=p.old b x hlt ⟨k2,r,e,hr⟩
     exact .inl ⟨k0,r0,(Own.am6 e0).1,h0⟩
    ·exact .inr (by omega)
  subB:=by
   intro k r l e
   rcases cases2 k r e with ⟨q,q1,e⟩ | ⟨k2,e,z⟩
   ·exact .inl ⟨k,r,l,e,rfl⟩
   ·by_cases hlt:r.1<w.heap.size
    ·obtain ⟨k0,r0,l0,e0,h0⟩:=p.oldB k2 r (by rcases z with ⟨_,rfl⟩ | ⟨_,rfl⟩<;>first | rfl | exact l) e hlt
     exact .inl ⟨k0,r0,l0,(Own.am6 e0).1,h0⟩
    ·exact .inr (by omega)
  rho:=fun id b e=>by rw [hrho2];exact p.rho id b e
  same:=fun k r e hT=>by
   simp only [not_or] at hT
   have q:k.ah6=false:=by simpa using hT.1
   exact ⟨by rw [hp k q hT.2];exact e,fun _=>hblk k r q e⟩
  new:=fun k hT e=>by
   simp only [not_or] at hT
   rw [hp k (by simpa using hT.1) hT.2];exact e
  base:=hbase}
 have hloc:∀i,own2 (.loc i)=own (.loc i):=fun i=>hp _ rfl (by simp)
 refine ⟨?_,fun hv=>hv.keep (fun b x v hc hm=>⟨hc,fun q=>hm ((hmut b x).2 q)⟩) (fun id b e=>by rw [hrho2];exact e)⟩
 have hobj:∀(id:Nat) (o:O),s'[id]? =some o->aP0 P (Mut mo own2) own2 w' id o:=fun id o ho=>(p.sr.objs id o ho).to (fun b x v _ hm=>by rw [←hmut];exact hm) hs
 cases hint with
 | false=>
  have ht1:own2 (.tok st.g)=none:=by rw [ht];exact hh rfl
  exact h.post post rfl rfl (Nat.le_refl _) (fun g hg hm=>⟨hm,by simp [Key.ah6];omega⟩) h.tokLt (fun g hm=>by
   by_cases q:g=st.g
   ·subst q;exact ht1
   ·rw [hp _ rfl (by simpa using q)];exact h.newTok g hm) (fun i r e=>by rw [hloc];exact e) (fun i box hb=>.inl ⟨hb,by simp [Key.ah6]⟩) (fun i hi=>by rw [hloc];exact h.newLoc i hi)
   (fun id o ho=>.inr (hobj id o ho)) (fun id hi=>by rw [hs _ rfl,hs _ rfl];exact p.sr.newObj id hi) (fun id off r e=>by rw [hs _ rfl] at e;exact p.sr.spare id off r e)
 | true=>
  exact h.post post rfl rfl (Nat.le_succ _) (fun g hg hm=>by
   rcases List.mem_cons.1 hm with e | e
   ·omega
   ·exact ⟨e,by simp [Key.ah6];omega⟩) (fun g hm=>by
   rcases List.mem_cons.1 hm with e | e
   ·simp;omega
   ·have:=h.tokLt g e;simp;omega) (fun g hm=>by
   simp at hm
   rw [hp _ rfl (by simpa using hm.1)];exact h.newTok g hm.2) (fun i r e=>by rw [hloc];exact e) (fun i box hb=>.inl ⟨hb,by simp [Key.ah6]⟩) (fun i hi=>by rw [hloc];exact h.newLoc i hi)
   (fun id o ho=>.inr (hobj id o ho)) (fun id hi=>by rw [hs _ rfl,hs _ rfl];exact p.sr.newObj id hi) (fun id off r e=>by rw [hs _ rfl] at e;exact p.sr.spare id off r e)
theorem FR.bB4 (h:FR P H mo acc w0 own st a w){own':Own}{w':World}{s':List O}(p:ax1 P (Mut mo own) (fun _=>none) w own' w' s')(hint:Bool)(hh:hint=false->own' (.tok 0)=none):
  FR P H mo acc w0 (own.set (.tok st.g) (own' (.tok 0))) (if hint then {st with g:=st.g+1,l:=st.g::st.l} else st) a w'/\(∀{v:V} {x:Value},aj2 v=true->VRel (Mut (Mut mo own) own') own'.rho w' v x->VRel (Mut mo (own.set (.tok st.g) (own' (.tok 0)))) (own.set (.tok st.g) (own' (.tok 0))).rho w' v x):=by
 generalize hown2:own.set (.tok st.g) (own' (.tok 0))=own2
 have ht0:own (.tok st.g)=none:=h.newTok _ fun hm=>absurd (h.tokLt _ hm) (by omega)
 have hp:∀k,k≠.tok st.g->own2 k=own k:=fun k q2=>by rw [←hown2];exact Own.ab6 _ _ q2
 have ht:own2 (.tok st.g)=own' (.tok 0):=by rw [←hown2];exact Own.ab7 _ _ _
 have hrho2:own2.rho=own.rho:=by funext i;exact Own.ap7 (hp _ (by simp)) (hp _ (by simp))
 have hnew:∀k r,k.live=true->own' k=some r->w.heap.size<=r.1:=by
  intro k r l e
  rcases Nat.lt_or_ge r.1 w.heap.size with hlt | hge
  ·obtain ⟨k0,r0,_,e0,_⟩:=p.oldB k r l e hlt
   cases e0
  ·exact hge
 have hheap:∀b,b<w.heap.size->w'.heap[b]? =w.heap[b]? :=fun b hb=>p.keep.block b hb fun x ⟨k,r,e,_⟩=>by cases e
 have cases2:∀k r,own2 k=some r->(k≠.tok st.g/\own k=some r)∨(k=.tok st.g/\own' (.tok 0)=some r):=by
  intro k r e
  by_cases q1:k=.tok st.g
  ·subst q1;rw [ht] at e;exact .inr ⟨rfl,e⟩
  ·rw [hp k q1] at e;exact .inl ⟨q1,e⟩
 have hmut:∀b x,Mut mo own2 b x->Mut (Mut mo own) own' b x:=by
  rintro b x (hm | ⟨k,r,e,hr⟩)
  ·exact .inl (.inl hm)
  ·rcases cases2 k r e with ⟨_,e⟩ | ⟨_,e⟩
   ·exact .inl (.inr ⟨k,r,e,hr⟩)
   ·exact .inr ⟨_,r,e,hr⟩
 have hbase:Base mo own2 w':=by
  refine ⟨fun k r k' r' l l' e e' he=>?_,fun id r e=>h.sr.base.gone id r (by rw [←hp _ (by simp)];exact e),fun k r e=>?_,fun k r b x e hx=>?_,fun k r e hr=>?_⟩
  ·rcases cases2 k r e with ⟨q,e⟩ | ⟨q,e⟩<;>rcases cases2 k' r' e' with ⟨q',e'⟩ | ⟨q',e'⟩
   ·exact h.sr.base.inj _ _ _ _ l l' e e' he
   ·have:=h.sr.base.lt _ _ e;have:=hnew _ _ rfl e';omega
   ·have:=h.sr.base.lt _ _ e';have:=hnew _ _ rfl e;omega
   ·rw [q,q']
  ·rcases cases2 k r e with ⟨q,e⟩ | ⟨q,e⟩
   ·exact Nat.lt_of_lt_of_le (h.sr.base.lt _ _ e) p.keep.size
   ·exact p.sr.base.lt _ _ e
  ·rcases cases2 k r e with ⟨q,e⟩ | ⟨q,e⟩
   ·exact h.sr.base.off _ _ _ _ e hx
   ·exact fun hm=>p.sr.base.off _ _ _ _ e hx (.inl hm)
  ·rcases cases2 k r e with ⟨q,e⟩ | ⟨q,e⟩
   ·obtain ⟨r1,cs,T,r2,r3⟩:=h.sr.base.room _ _ e hr
    exact ⟨r1,cs,T,(hheap _ (h.sr.base.lt _ _ e)).trans r2,r3⟩
   ·exact p.sr.base.room _ _ e rfl
 have post:Post mo own w own2 w' (·=.tok st.g):={
  keep:=p.keep.weak fun b x ⟨k,r,e,hr⟩=>by cases e
  sub:=by
   rintro b x ⟨k,r,e,hr⟩
   rcases cases2 k r e with ⟨q,e⟩ | ⟨q,e⟩
   ·exact .inl ⟨k,r,e,hr⟩
   ·have:=hnew _ _ rfl e;have:=hr.1;exact .inr (by omega)
  subB:=by
   intro k r l e
   rcases cases2 k r e with ⟨q,e⟩ | ⟨q,e⟩
   ·exact .inl ⟨k,r,l,e,rfl⟩
   ·exact .inr (hnew _ _ rfl e)
  rho:=fun id b e=>by rw [hrho2];exact e
  same:=fun k r e hT=>⟨by rw [hp k hT];exact e,fun _=>hheap _ (h.sr.base.lt _ _ e)⟩
  new:=fun k hT e=>by rw [hp k hT];exact e
  base:=hbase}
 refine ⟨?_,fun hno hv=>bw0 (hv.keep (fun b x v hc hm=>⟨hc,fun q=>hm (hmut b x q)⟩) (fun id b e=>e)) hno⟩
 cases hint with
 | false=>
  have ht1:own2 (.tok st.g)=none:=by rw [ht];exact hh rfl
  exact h.post post rfl rfl (Nat.le_refl _) (fun g hg hm=>⟨hm,by simp;omega⟩) h.tokLt (fun g hm=>by
   by_cases q:g=st.g
   ·subst q;exact ht1
   ·rw [hp _ (by simpa using q)];exact h.newTok g hm) (fun i r e=>by rw [hp _ (by simp)];exact e) (fun i box hb=>.inl ⟨hb,by simp⟩) (fun i hi=>by rw [hp _ (by simp)];exact h.newLoc i hi)
   (fun id o ho=>.inl ⟨ho,by simp,by simp⟩) (fun id hi=>by rw [hp _ (by simp),hp _ (by simp)];exact h.sr.newObj id hi) (fun id off r e=>by rw [hp _ (by simp)] at e;exact h.sr.spare id off r e)
 | true=>
  exact h.post post rfl rfl (Nat.le_succ _) (fun g hg hm=>by
   rcases List.mem_cons.1 hm with e | e
   ·omega
   ·exact ⟨e,by simp;omega⟩) (fun g hm=>by
   rcases List.mem_cons.1 hm with e | e
   ·simp;omega
   ·have:=h.tokLt g e;simp;omega) (fun g hm=>by
   simp at hm
   rw [hp _ (by simpa using hm.1)];exact h.newTok g hm.2) (fun i r e=>by rw [hp _ (by simp)];exact e) (fun i box hb=>.inl ⟨hb,by simp⟩) (fun i hi=>by rw [hp _ (by simp)];exact h.newLoc i hi)
   (fun id o ho=>.inl ⟨ho,by simp,by simp⟩) (fun id hi=>by rw [hp _ (by simp),hp _ (by simp)];exact h.sr.newObj id hi) (fun id off r e=>by rw [hp _ (by simp)] at e;exact h.sr.spare id off r e)
end
end Go.Proofs.YtnpjififnhjbbaaDoor.E
