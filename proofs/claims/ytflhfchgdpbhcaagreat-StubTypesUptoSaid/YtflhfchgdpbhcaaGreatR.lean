/- It is proved of an operation that is read from memory that plain data stands for it. No condition beyond the lemmas' own. -/
import Derived.Test.YtflhfchgdpbhcaaGreatRows
import Derived.Test.YtflhfchgdpbhcaaGreatHO
import Derived.Test.YtflhfchgdpbhcaaGreatPF
import Derived.WalkKit
import Derived.ProofKit
set_option maxRecDepth 100000
namespace Go.Proofs.YtflhfchgdpbhcaaGreat.E
open Go Go.ChangeShapes
abbrev upB {H:Type}(d:DataW H):Nat:=YtflhfchgdpbhcaaGreat.Rows.uptoBulk d
abbrev upA {H:Type}(l:List (DataW H)):Nat:=YtflhfchgdpbhcaaGreat.Rows.uptoBulkAll l
abbrev VR (W:World)(v:V)(x:Value):Prop:=VRel (Mut M0 own0) own0.rho W v x
theorem up_one {H:Type}(d:DataW H):1<=upB d:=by
 unfold upB
 cases d with
 | lit l=>cases l<;>simp [YtflhfchgdpbhcaaGreat.Rows.uptoBulk]
 | nil=>simp [YtflhfchgdpbhcaaGreat.Rows.uptoBulk]
 | ptr d=>simp [YtflhfchgdpbhcaaGreat.Rows.uptoBulk]
 | slice elems spare=>simp [YtflhfchgdpbhcaaGreat.Rows.uptoBulk]
 | agg parts=>simp [YtflhfchgdpbhcaaGreat.Rows.uptoBulk]
 | iface t d=>simp [YtflhfchgdpbhcaaGreat.Rows.uptoBulk]
 | map entries=>simp [YtflhfchgdpbhcaaGreat.Rows.uptoBulk]
 | held h=>simp [YtflhfchgdpbhcaaGreat.Rows.uptoBulk]
theorem at9 {H:Type}(d:DataW H)(l:List (DataW H)):upA (d::l)=upB d+upA l:=by simp [YtflhfchgdpbhcaaGreat.Rows.uptoBulkAll]
theorem aX2 {H:Type}:upA ([]:List (DataW H))=0:=by simp [YtflhfchgdpbhcaaGreat.Rows.uptoBulkAll]
theorem bq4 {H:Type}(l:List (DataW H)):upB (.agg l)=upA l+1:=by simp [YtflhfchgdpbhcaaGreat.Rows.uptoBulk]
theorem up_slice {H:Type}(l r:List (DataW H)):upB (.slice l r)=upA l+upA r+1:=by simp [YtflhfchgdpbhcaaGreat.Rows.uptoBulk]
theorem up_str {H:Type}(s:ByteArray):upB (DataW.lit (H:=H) (.string s.data.toList))=s.size+1:=by
 unfold upB
 simp only [YtflhfchgdpbhcaaGreat.Rows.uptoBulk]
 rw [Array.length_toList];rfl
def PRl (W:World)(l:List V)(cs:List Value):Prop:=l.length=cs.length/\∀(j:Nat) (v:V) (c:Value),l[j]? =some v->cs[j]? =some c->VR W v c
theorem PRl.nil (W:World):PRl W [] []:=⟨rfl,fun j v c h=>by simp at h⟩
theorem PRl.cons {W:World}{v:V}{c:Value}{l:List V}{cs:List Value}(h:VR W v c)(hl:PRl W l cs):PRl W (v::l) (c::cs):=by
 refine ⟨by simp [hl.1],fun j v' c' h1 h2=>?_⟩
 cases j with
 | zero=>simp at h1 h2;subst h1;subst h2;exact h
 | succ j=>exact hl.2 j v' c' (by simpa using h1) (by simpa using h2)
theorem PRl.app {W:World}{l:List V}{cs:List Value}{r:List V}{ds:List Value}(h1:PRl W l cs)(h2:PRl W r ds):PRl W (l++r) (cs++ds):=by
 induction l generalizing cs with
 | nil=>
  obtain rfl:cs=[]:=List.length_eq_zero_iff.1 (by have:=h1.1;simpa using this.symm)
  exact h2
 | cons v l ih=>
  cases cs with
  | nil=>have:=h1.1;simp at this
  | cons c cs=>
   refine PRl.cons (h1.2 0 v c rfl rfl) (ih ⟨by have:=h1.1;simpa using this,fun j v c a b=>h1.2 (j+1) v c (by simpa using a) (by simpa using b)⟩)
def AllQ {α β:Type}(Q:α->β->Prop):List α->List β->Prop
 | [],[]=>True
 | a::r,b::s=>Q a b/\AllQ Q r s
 | _,_=>False
theorem AllQ.len {α β:Type}{Q:α->β->Prop}:∀{l:List α} {r:List β},AllQ Q l r->l.length=r.length
 | [],[],_=>rfl
 | _::l,_::r,h=>by simp [AllQ.len h.2]
 | [],_::_,h=>h.elim
 | _::_,[],h=>h.elim
theorem bm3 {H:Type}(l:List (DataW H)):l.length<=upA l:=by
 induction l with
 | nil=>simp
 | cons x r ih=>have:=up_one x;rw [at9,List.length_cons];omega
section
variable {H:Type} {enc:TypeId×Value->H} {W:World}
theorem elems_rd {α:Type}{view:α->V}{Q:α->DataW H->Prop}{K:Nat}{a:Addr}{T:List Value->Option (DataW H×List MemPlace)}
  (hel:∀cs y,T cs=some y->∃x:α,Q x y.1/\(view x).cells.length=K/\ac8 (view x).cells=true/\PRl W (view x).cells cs):
  ∀(l:List (DataW H×List MemPlace)) (off:Nat),(∀i y,l[i]? =some y->(W.cells? 0 (a.add ((off+i)*K)) K).bind T=some y) ->
   ∃ts:List α,AllQ Q ts (l.map (·.1))/\(∀x∈ts,(view x).cells.length=K/\ac8 (view x).cells=true)/\∀(i:Nat) (x:α),ts[i]? =some x->∃cs,W.cells? 0 (a.add ((off+i)*K)) K=some cs/\PRl W (view x).cells cs
 | [],_,_=>⟨[],trivial,fun x h=>by simp at h,fun i x h=>by simp at h⟩
 | y::r,off,h=>by
  obtain ⟨cs,h1,h2⟩:=Option.bind_eq_some_iff.1 (h 0 y rfl)
  obtain ⟨x,q1,q2,q3,q4⟩:=hel cs y h2
  obtain ⟨ts,t1,t2,t3⟩:=elems_rd hel r (off+1) (fun i y hy=>by
   have:=h (i+1) y (by simpa using hy)
   rw [show off+1+i=off+(i+1) by omega];exact this)
  refine ⟨x::ts,⟨q1,t1⟩,fun z hz=>?_,fun i z hz=>?_⟩
  ·rcases List.mem_cons.1 hz with e | hz
   ·rw [e];exact ⟨q2,q3⟩
   ·exact t2 z hz
  ·cases i with
   | zero=>simp at hz;subst hz;exact ⟨cs,h1,q4⟩
   | succ i=>
    obtain ⟨cs',c1,c2⟩:=t3 i z (by simpa using hz)
    exact ⟨cs',by rw [show off+(i+1)=off+1+i by omega];exact c1,c2⟩
theorem aK2 {α:Type}{view:α->V}{Q:α->DataW H->Prop}{t e:TypeId}{K fuel:Nat}{cs:List Value}{x:DataW H×List MemPlace}(ht:Tryz.prog.underlying t=some (.slice e))(hc:Tryz.prog.cellsOf e=K)(hK:0<K)
  (hel:∀n,n<fuel->∀cs y,DataW.trod enc Tryz.prog W 0 (fun _=>true) true n e cs=some y->∃x:α,Q x y.1/\(view x).cells.length=K/\ac8 (view x).cells=true/\PRl W (view x).cells cs)
  (h:DataW.trod enc Tryz.prog W 0 (fun _=>true) true fuel t cs=some x):
  ∃(f:Bool) (ts:List α) (v:Value) (ds:List (DataW H)),cs=[v]/\VR W (.list f K (ts.map view)) v/\(f=false->ts=[])/\AllQ Q ts ds/\upA ds+1<=upB x.1:=by
 rcases DataW.trod_slice ht h with ⟨rfl,rfl⟩ | ⟨a,len,cap,elems,rest,n,hn,rfl,rfl,hb,hl,hm,hlen,hE,hsp,hns⟩
 ·exact ⟨false,[],_,[],rfl,.nillist K,fun _=>rfl,trivial,by rw [aX2];exact up_one _⟩
 ·obtain ⟨hrl,hrest⟩:=hsp rfl
  rw [hc] at hE hrest
  have hel':=hel n (by omega)
  obtain ⟨ts,t1,t2,t3⟩:=elems_rd (view:=view) (Q:=Q) (K:=K) (a:=a) hel' elems 0 (fun i y hy=>by
   have hi:=(List.getElem?_eq_some_iff.1 hy).1
   rw [Nat.zero_add,hE i (by omega),hy])
  have htl:ts.length=len:=by rw [t1.len,List.length_map];exact hlen
  obtain ⟨b,o,sp⟩:=a
  have spn:sp=none∨cap=0:=by
   by_cases hcap:cap=0
   ·exact .inr hcap
   ·left
    have hz:∃y,(W.cells? 0 ((⟨b,o,sp⟩:Addr).add (0*K)) K).bind (DataW.trod enc Tryz.prog W 0 (fun _=>true) true n e)=some y:=by
     by_cases h0:0<len
     ·obtain ⟨y,hy⟩:=getL (l:=elems) (i:=0) (by omega)
      exact ⟨y,by rw [hE 0 h0,hy]⟩
     ·obtain ⟨y,hy⟩:=getL (l:=rest) (i:=0) (by omega)
      have:=hrest 0 (by omega)
      rw [hy,show len+0=0 by omega] at this
      exact ⟨y,this⟩
    obtain ⟨y,hy⟩:=hz
    obtain ⟨cs,h1,_⟩:=Option.bind_eq_some_iff.1 hy
    obtain ⟨_,g2,g3⟩:=World.cells?_some h1
    have:=g3 0 hK
    obtain ⟨c,hc0⟩:=getL (l:=cs) (i:=0) (by omega)
    rw [hc0,Nat.zero_mul] at this
    have e0:((⟨b,o,sp⟩:Addr).add 0).add 0=⟨b,o,sp⟩:=rfl
    rw [e0] at this
    unfold World.cell? at this
    cases sp with
    | none=>rfl
    | some q=>
     exfalso
     split at this
     ·simp at this
     ·cases this
  have look:∀(i:Nat) (z:α) (j:Nat) (v:V),ts[i]? =some z->(view z).cells[j]? =some v->∃c,W.cell? ⟨b,o+i*K+j,none⟩=some c/\VR W v c:=by
   intro i z j v hz hv
   have hi:=(List.getElem?_eq_some_iff.1 hz).1
   have hsn:sp=none:=by rcases spn with h | h;exact h;omega
   subst hsn
   obtain ⟨cs,c1,c2⟩:=t3 i z hz
   obtain ⟨_,g2,g3⟩:=World.cells?_some c1
   have hj:j<K:=by rw [←(t2 z (List.mem_of_getElem? hz)).1];exact (List.getElem?_eq_some_iff.1 hv).1
   obtain ⟨c,hc0⟩:=getL (l:=cs) (i:=j) (by omega)
   have:=g3 j hj
   rw [Nat.zero_add,ap0,ap0,hc0] at this
   exact ⟨c,this,c2.2 j v c hv hc0⟩
  refine ⟨true,ts,_,elems.map (·.1),rfl,VRel.list K (ts.map view) b o cap (fun i j=>(W.cell? ⟨b,o+i*K+j,none⟩).getD undef) len (by rw [List.length_map];exact htl) hl ?_ ?_ ?_ ?_ sp spn,(fun h=>by cases h),t1,?_⟩
  ·intro v hv
   obtain ⟨z,hz,rfl⟩:=List.mem_map.1 hv
   exact (t2 z hz).1
  ·intro v hv
   obtain ⟨z,hz,rfl⟩:=List.mem_map.1 hv
   exact (t2 z hz).2
  ·intro i v j u hv hu
   rw [List.getElem?_map] at hv
   obtain ⟨z,hz,rfl⟩:=Option.map_eq_some_iff.1 hv
   obtain ⟨c,c1,_⟩:=look i z j u hz hu
   rw [c1]
   exact ⟨rfl,no_mut0 _ _⟩
  ·intro i v j u hv hu
   rw [List.getElem?_map] at hv
   obtain ⟨z,hz,rfl⟩:=Option.map_eq_some_iff.1 hv
   obtain ⟨c,c1,c2⟩:=look i z j u hz hu
   show VR W u ((W.cell? ⟨b,o+i*K+j,none⟩).getD undef)
   rw [c1]
   exact c2
  ·rw [up_slice];omega
end
end Go.Proofs.YtflhfchgdpbhcaaGreat.E
set_option maxRecDepth 100000
namespace Go.Proofs.YtflhfchgdpbhcaaGreat.E
open Go Go.ChangeShapes
theorem k3 :Tryz.prog.cellsOf 3=1:=by kernel_rfl
theorem k4 :Tryz.prog.cellsOf 4=1:=by kernel_rfl
theorem k9 :Tryz.prog.cellsOf 9=1:=by kernel_rfl
theorem k22 :Tryz.prog.cellsOf 22=1:=by kernel_rfl
theorem k23 :Tryz.prog.cellsOf 23=1:=by kernel_rfl
theorem k24 :Tryz.prog.cellsOf 24=1:=by kernel_rfl
theorem k25 :Tryz.prog.cellsOf 25=1:=by kernel_rfl
theorem k27 :Tryz.prog.cellsOf 27=9:=by kernel_rfl
theorem k28 :Tryz.prog.cellsOf 28=1:=by kernel_rfl
theorem k30 :Tryz.prog.cellsOf 30=13:=by kernel_rfl
theorem k43 :Tryz.prog.cellsOf 43=11:=by kernel_rfl
theorem k78 :Tryz.prog.cellsOf 78=1:=by kernel_rfl
theorem k80 :Tryz.prog.cellsOf 80=3:=by kernel_rfl
theorem AllQ.mem {α β:Type}{Q:α->β->Prop}:∀{l:List α} {r:List β},AllQ Q l r->∀a∈l,∃b∈r,Q a b
 | a::l,b::r,h,x,hx=>by
  rcases List.mem_cons.1 hx with e | hx
  ·rw [e];exact ⟨b,List.mem_cons_self ..,h.1⟩
  ·obtain ⟨y,y1,y2⟩:=AllQ.mem h.2 x hx
   exact ⟨y,List.mem_cons_of_mem _ y1,y2⟩
 | [],[],_,x,hx=>by simp at hx
 | [],_::_,h,_,_=>h.elim
 | _::_,[],h,_,_=>h.elim
theorem upA_mem {H:Type}{d:DataW H}{l:List (DataW H)}(h:d∈l):upB d<=upA l:=by
 induction l with
 | nil=>simp at h
 | cons x r ih=>
  rw [at9]
  rcases List.mem_cons.1 h with e | h
  ·rw [e];omega
  ·have:=ih h;omega
section
variable {H:Type} {enc:TypeId×Value->H} {W:World}
noncomputable abbrev TRD (enc:TypeId×Value->H)(W:World)(n t:Nat)(cs:List Value):Option (DataW H×List MemPlace):=DataW.trod enc Tryz.prog W 0 (fun _=>true) true n t cs
def QS (s:ByteArray)(d:DataW H):Prop:=s.size+1<=upB d
theorem bg0 {n:Nat}{cs:List Value}{y:DataW H×List MemPlace}(h:TRD enc W n 9 cs=some y):∃s:ByteArray,QS s y.1/\(V.str s).cells.length=1/\ac8 (V.str s).cells=true/\PRl W (V.str s).cells cs:=by
 obtain ⟨s,rfl,rfl,_⟩:=DataW.trod_string Tryz.underlying9 h
 exact ⟨s,by unfold QS;rw [up_str];exact Nat.le_refl _,rfl,rfl,PRl.cons (.str s) (PRl.nil W)⟩
theorem bj3 {n:Nat}{cs:List Value}{y:DataW H×List MemPlace}(h:TRD enc W n 3 cs=some y):∃x:Int,True/\(V.int .i64 x).cells.length=1/\ac8 (V.int .i64 x).cells=true/\PRl W (V.int .i64 x).cells cs:=by
 obtain ⟨x,rfl,rfl,_⟩:=DataW.trod_int Tryz.underlying3 h
 exact ⟨x,trivial,rfl,rfl,PRl.cons (.int .i64 x) (PRl.nil W)⟩
def QL (l:Bool×List Int)(d:DataW H):Prop:=l.2.length+1<=upB d/\(l.1=false->l.2=[])
theorem lab_rd {n:Nat}{cs:List Value}{y:DataW H×List MemPlace}(h:TRD enc W n 78 cs=some y):∃l:Bool×List Int,QL l y.1/\(lv l).cells.length=1/\ac8 (lv l).cells=true/\PRl W (lv l).cells cs:=by
 obtain ⟨f,ts,v,ds,rfl,h1,h2,h3,h4⟩:=aK2 (view:=fun x=>V.int .i64 x) (Q:=fun _ _=>True) Tryz.underlying78 k3 (by omega) (fun n _ cs y h=>bj3 h) h
 refine ⟨(f,ts),⟨?_,h2⟩,rfl,rfl,PRl.cons h1 (PRl.nil W)⟩
 have:=h3.len
 have:=bm3 ds
 show ts.length+1<=_
 omega
def QP (p:Pt)(d:DataW H):Prop:=p.1.size+1<=upB d
theorem part_rd {n:Nat}{cs:List Value}{y:DataW H×List MemPlace}(h:TRD enc W n 80 cs=some y):∃p:Pt,QP p y.1/\(pv p).cells.length=3/\ac8 (pv p).cells=true/\PRl W (pv p).cells cs:=by
 obtain ⟨xs,m,_,rfl,hl,hlen,hfs⟩:=DataW.trod_struct Tryz.underlying80 h
 rw [k80] at hl
 match cs,hl,xs,hlen with
 | [c0,c1,c2],_,[y0,y1,y2],_=>
  have h0:=hfs 0 {name:= "ID",type:=9,offset:=0,embedded:=false,tag:= "",pkgPath:= "",byteOffset:=0} rfl
  have h1:=hfs 1 {name:= "N",type:=3,offset:=1,embedded:=false,tag:= "",pkgPath:= "",byteOffset:=16} rfl
  have h2:=hfs 2 {name:= "Trunc",type:=4,offset:=2,embedded:=false,tag:= "",pkgPath:= "",byteOffset:=24} rfl
  simp only [k3,k4,k9,List.getElem?_cons_zero,List.getElem?_cons_succ,List.drop_zero,List.drop_succ_cons,List.take_succ_cons,List.take_zero] at h0 h1 h2
  obtain ⟨a0,q0,_,_,p0⟩:=bg0 h0
  obtain ⟨a1,_,_,_,p1⟩:=bj3 h1
  obtain ⟨a2,e2,_⟩:=DataW.trod_bool Tryz.underlying4 h2
  have e2:c2=.bool a2:=by simpa using e2
  subst e2
  refine ⟨(a0,a1,a2),?_,rfl,rfl,PRl.cons (p0.2 0 _ c0 rfl rfl) (PRl.cons (p1.2 0 _ c1 rfl rfl) (PRl.cons (.bool a2) (PRl.nil W)))⟩
  unfold QP QS at *
  rw [bq4]
  simp only [List.map_cons,List.map_nil,at9,aX2]
  omega
theorem bC8 (t:Ty):ac8 (tcs t)=true:=by
 obtain ⟨k,id,nm,n,m,f1,ns,f2,ks,f3,ls,f4,ch⟩:=t
 rfl
theorem len_tcs (t:Ty):(tcs t).length=9:=by
 obtain ⟨k,id,nm,n,m,f1,ns,f2,ks,f3,ls,f4,ch⟩:=t
 rfl
theorem cl_tv (t:Ty):(tv t).cells=tcs t:=by rw [aF7];rfl
def QT (t:Ty)(d:DataW H):Prop:=upB d<=1048576->wOk t
theorem suS_le {ds:List (DataW H)}{l:List ByteArray}(h:AllQ QS l ds):suS l+l.length<=upA ds/\∀x∈l,x.size<=upA ds:=by
 induction l generalizing ds with
 | nil=>exact ⟨by simp [suS],fun x hx=>by simp at hx⟩
 | cons a r ih=>
  cases ds with
  | nil=>exact h.elim
  | cons d ds=>
   obtain ⟨i1,i2⟩:=ih h.2
   have h1:=h.1
   unfold QS at h1
   rw [at9,suS,List.length_cons]
   refine ⟨by omega,fun x hx=>?_⟩
   rcases List.mem_cons.1 hx with e | hx
   ·rw [e];omega
   ·have:=i2 x hx;omega
theorem suL_le {ds:List (DataW H)}{l:List (Bool×List Int)}(h:AllQ QL l ds):suL l+l.length<=upA ds:=by
 induction l generalizing ds with
 | nil=>simp [suL]
 | cons a r ih=>
  cases ds with
  | nil=>exact h.elim
  | cons d ds=>
   have i1:=ih h.2
   have h1:=h.1.1
   rw [at9,suL,List.length_cons]
   omega
theorem suP_le {ds:List (DataW H)}{l:List Pt}(h:AllQ QP l ds):suP l+l.length<=upA ds/\∀p∈l,p.1.size<=upA ds:=by
 induction l generalizing ds with
 | nil=>exact ⟨by simp [suP],fun x hx=>by simp at hx⟩
 | cons a r ih=>
  cases ds with
  | nil=>exact h.elim
  | cons d ds=>
   obtain ⟨i1,i2⟩:=ih h.2
   have h1:=h.1
   unfold QP at h1
   rw [at9,suP,List.length_cons]
   refine ⟨by omega,fun x hx=>?_⟩
   rcases List.mem_cons.1 hx with e | hx
   ·rw [e];omega
   ·have:=i2 x hx;omega
theorem ws_of {ds:List (DataW H)}{l:List Ty}(h:AllQ QT l ds)(hb:upA ds<=1048576):wsOk l:=by
 induction l generalizing ds with
 | nil=>trivial
 | cons a r ih=>
  cases ds with
  | nil=>exact h.elim
  | cons d ds=>
   rw [at9] at hb
   exact ⟨h.1 (by omega),ih h.2 (by omega)⟩
theorem bm4 :∀(fuel n:Nat),n<fuel->∀(cs:List Value) (y:DataW H×List MemPlace),TRD enc W n 27 cs=some y->∃t:Ty,QT t y.1/\(tv t).cells.length=9/\ac8 (tv t).cells=true/\PRl W (tv t).cells cs
 | 0,n,hn,_,_,_=>by omega
 | fuel+1,n,hn,cs,y,h=>by
  obtain ⟨xs,m,hm,rfl,hl,hlen,hfs⟩:=DataW.trod_struct Tryz.underlying27 h
  rw [k27] at hl
  match cs,hl,xs,hlen with
  | [c0,c1,c2,c3,c4,c5,c6,c7,c8],_,[y0,y1,y2,y3,y4,y5,y6,y7,y8],_=>
   have h0:=hfs 0 {name:= "Kind",type:=3,offset:=0,embedded:=false,tag:= "",pkgPath:= "",byteOffset:=0} rfl
   have h1:=hfs 1 {name:= "ID",type:=9,offset:=1,embedded:=false,tag:= "",pkgPath:= "",byteOffset:=8} rfl
   have h2:=hfs 2 {name:= "Name",type:=9,offset:=2,embedded:=false,tag:= "",pkgPath:= "",byteOffset:=24} rfl
   have h3:=hfs 3 {name:= "N",type:=3,offset:=3,embedded:=false,tag:= "",pkgPath:= "",byteOffset:=40} rfl
   have h4:=hfs 4 {name:= "M",type:=3,offset:=4,embedded:=false,tag:= "",pkgPath:= "",byteOffset:=48} rfl
   have h5:=hfs 5 {name:= "Names",type:=22,offset:=5,embedded:=false,tag:= "",pkgPath:= "",byteOffset:=56} rfl
   have h6:=hfs 6 {name:= "Kids",type:=23,offset:=6,embedded:=false,tag:= "",pkgPath:= "",byteOffset:=80} rfl
   have h7:=hfs 7 {name:= "Labels",type:=24,offset:=7,embedded:=false,tag:= "",pkgPath:= "",byteOffset:=104} rfl
   have h8:=hfs 8 {name:= "Chain",type:=25,offset:=8,embedded:=false,tag:= "",pkgPath:= "",byteOffset:=128} rfl
   simp only [k3,k9,k22,k23,k24,k25,List.getElem?_cons_zero,List.getElem?_cons_succ,List.drop_zero,List.drop_succ_cons,List.take_succ_cons,List.take_zero] at h0 h1 h2 h3 h4 h5 h6 h7 h8
   obtain ⟨a0,_,_,_,p0⟩:=bj3 h0
   obtain ⟨a1,q1,_,_,p1⟩:=bg0 h1
   obtain ⟨a2,q2,_,_,p2⟩:=bg0 h2
   obtain ⟨a3,_,_,_,p3⟩:=bj3 h3
   obtain ⟨a4,_,_,_,p4⟩:=bj3 h4
   obtain ⟨f5,t5,v5,d5,e5,r5,n5,u5,b5⟩:=aK2 (view:=V.str) (Q:=QS) Tryz.underlying22 k9 (by omega) (fun n _ cs y h=>bg0 h) h5
   obtain ⟨f6,t6,v6,d6,e6,r6,n6,u6,b6⟩:=aK2 (view:=tv) (Q:=QT) Tryz.underlying23 k27 (by omega) (fun n hn' cs y h=>bm4 fuel n (by omega) cs y h) h6
   obtain ⟨f7,t7,v7,d7,e7,r7,n7,u7,b7⟩:=aK2 (view:=lv) (Q:=QL) Tryz.underlying24 k78 (by omega) (fun n _ cs y h=>lab_rd h) h7
   obtain ⟨f8,t8,v8,d8,e8,r8,n8,u8,b8⟩:=aK2 (view:=pv) (Q:=QP) Tryz.underlying25 k80 (by omega) (fun n _ cs y h=>part_rd h) h8
   obtain rfl:c5=v5:=by simpa using e5
   obtain rfl:c6=v6:=by simpa using e6
   obtain rfl:c7=v7:=by simpa using e7
   obtain rfl:c8=v8:=by simpa using e8
   refine ⟨.mk a0 a1 a2 a3 a4 f5 t5 f6 t6 f7 t7 f8 t8,?_,?_,?_,?_⟩
   ·intro hb
    rw [bq4] at hb
    simp only [List.map_cons,List.map_nil,at9,aX2] at hb
    unfold QS at q1 q2
    obtain ⟨s1,s2⟩:=suS_le u5
    have s3:=suL_le u7
    obtain ⟨s4,s5⟩:=suP_le u8
    have s6:=u6.len
    have s7:=bm3 d6
    refine ⟨⟨by omega,by omega,fun x hx=>by have:=s2 x hx;omega,fun x hx=>by have:=s5 x hx;omega,?_,by omega⟩,⟨n5,n6,n7,n8,?_⟩,ws_of u6 (by omega)⟩
    ·unfold owT ow0
     omega
    ·intro l hl
     obtain ⟨d,_,hd⟩:=u7.mem l hl
     exact hd.2
   ·rw [cl_tv];exact len_tcs _
   ·rw [cl_tv];exact bC8 _
   ·rw [cl_tv,tcs]
    refine PRl.cons (p0.2 0 _ c0 rfl rfl) (PRl.cons (p1.2 0 _ c1 rfl rfl) (PRl.cons (p2.2 0 _ c2 rfl rfl) (PRl.cons (p3.2 0 _ c3 rfl rfl) (PRl.cons (p4.2 0 _ c4 rfl rfl) (PRl.cons r5 (PRl.cons ?_ (PRl.cons r7 (PRl.cons r8 (PRl.nil W)))))))))
    rw [as0]
    exact r6
def QR (p:Par)(d:DataW H):Prop:=p.nm.size+1<=upB d/\(upB d<=1048576->wOk p.ty)
theorem par_rd {n:Nat}{cs:List Value}{y:DataW H×List MemPlace}(h:TRD enc W n 43 cs=some y):∃p:Par,QR p y.1/\(pav p).cells.length=11/\ac8 (pav p).cells=true/\PRl W (pav p).cells cs:=by
 obtain ⟨xs,m,_,rfl,hl,hlen,hfs⟩:=DataW.trod_struct Tryz.underlying43 h
 rw [k43] at hl
 match xs,hlen with
 | [y0,y1,y2],_=>
  have h0:=hfs 0 {name:= "Name",type:=9,offset:=0,embedded:=false,tag:= "",pkgPath:= "",byteOffset:=0} rfl
  have h1:=hfs 1 {name:= "Way",type:=3,offset:=1,embedded:=false,tag:= "",pkgPath:= "",byteOffset:=16} rfl
  have h2:=hfs 2 {name:= "Type",type:=27,offset:=2,embedded:=false,tag:= "",pkgPath:= "",byteOffset:=24} rfl
  simp only [k3,k27,k9,List.getElem?_cons_zero,List.getElem?_cons_succ] at h0 h1 h2
  obtain ⟨a0,q0,_,_,p0⟩:=bg0 h0
  obtain ⟨a1,_,_,_,p1⟩:=bj3 h1
  obtain ⟨a2,q2,_,_,p2⟩:=bm4 (m+1) m (by omega) _ _ h2
  rw [cl_tv] at p2
  refine ⟨⟨a0,a1,a2⟩,⟨?_,?_⟩,?_,?_,?_⟩
  ·rw [bq4]
   simp only [List.map_cons,List.map_nil,at9,aX2]
   unfold QS at q0
   omega
  ·intro hb
   rw [bq4] at hb
   simp only [List.map_cons,List.map_nil,at9,aX2] at hb
   exact q2 (by omega)
  ·show (V.str a0::V.int .i64 a1::tcs a2).length=11
   simp [len_tcs]
  ·show ac8 (V.str a0::V.int .i64 a1::tcs a2)=true
   simp [ac8,V.good,bC8]
  ·have e:cs=(cs.drop 0).take 1++((cs.drop 1).take 1++(cs.drop 2).take 9):=by
    match cs,hl with
    | [b0,b1,b2,b3,b4,b5,b6,b7,b8,b9,b10],_=>rfl
   rw [e]
   exact PRl.app p0 (PRl.app p1 p2)
theorem op_rd {n:Nat}{cs:List Value}{y:DataW H×List MemPlace}(h:TRD enc W n 30 cs=some y)(hb:upB y.1<=1048576):∃o:Opn,woOk o/\ac8 (opv o).cells=true/\PRl W (opv o).cells cs:=by
 obtain ⟨xs,m,_,rfl,hl,hlen,hfs⟩:=DataW.trod_struct Tryz.underlying30 h
 rw [k30] at hl
 match xs,hlen with
 | [y0,y1,y2,y3,y4],_=>
  have h0:=hfs 0 {name:= "Name",type:=9,offset:=0,embedded:=false,tag:= "",pkgPath:= "",byteOffset:=0} rfl
  have h1:=hfs 1 {name:= "Oneway",type:=4,offset:=1,embedded:=false,tag:= "",pkgPath:= "",byteOffset:=16} rfl
  have h2:=hfs 2 {name:= "Result",type:=27,offset:=2,embedded:=false,tag:= "",pkgPath:= "",byteOffset:=24} rfl
  have h3:=hfs 3 {name:= "Params",type:=28,offset:=11,embedded:=false,tag:= "",pkgPath:= "",byteOffset:=176} rfl
  have h4:=hfs 4 {name:= "Raises",type:=23,offset:=12,embedded:=false,tag:= "",pkgPath:= "",byteOffset:=200} rfl
  simp only [k4,k27,k9,k28,k23,List.getElem?_cons_zero,List.getElem?_cons_succ] at h0 h1 h2 h3 h4
  rw [bq4] at hb
  simp only [List.map_cons,List.map_nil,at9,aX2] at hb
  obtain ⟨a0,q0,_,_,p0⟩:=bg0 h0
  obtain ⟨a1,e1,_⟩:=DataW.trod_bool Tryz.underlying4 h1
  obtain ⟨a2,q2,_,_,p2⟩:=bm4 (m+1) m (by omega) _ _ h2
  obtain ⟨f3,t3,v3,d3,e3,r3,n3,u3,b3⟩:=aK2 (view:=pav) (Q:=QR) Tryz.underlying28 k43 (by omega) (fun n _ cs y h=>par_rd h) h3
  obtain ⟨f4,t4,v4,d4,e4,r4,n4,u4,b4⟩:=aK2 (view:=tv) (Q:=QT) Tryz.underlying23 k27 (by omega) (fun n hn' cs y h=>bm4 (n+1) n (by omega) cs y h) h4
  rw [cl_tv] at p2
  have l3:=u3.len
  have l3':=bm3 d3
  have l4:=u4.len
  have l4':=bm3 d4
  unfold QS at q0
  refine ⟨⟨a0,a1,a2,f3,t3,f4,t4⟩,⟨by simp only;omega,q2 (by omega),?_,ws_of u4 (by omega),n3,n4,by simp only;omega,by simp only;omega⟩,?_,?_⟩
  ·intro p hp
   obtain ⟨d,hd,h1,h2⟩:=u3.mem p hp
   have:=upA_mem hd
   exact ⟨by omega,h2 (by omega)⟩
  ·show ac8 (V.str a0::V.bool a1::(tcs a2++[.list f3 11 (pavs t3),.list f4 9 (tvs t4)]))=true
   obtain ⟨k,id,nm,n,m,g1,ns,g2,ks,g3,ls,g4,ch⟩:=a2
   rfl
  ·have e:cs=(cs.drop 0).take 1++((cs.drop 1).take 1++((cs.drop 2).take 9++((cs.drop 11).take 1++(cs.drop 12).take 1))):=by
    match cs,hl with
    | [b0,b1,b2,b3,b4,b5,b6,b7,b8,b9,b10,b11,b12],_=>rfl
   rw [e]
   show PRl W ([V.str a0]++([V.bool a1]++(tcs a2++([.list f3 11 (pavs t3)]++[.list f4 9 (tvs t4)])))) _
   refine PRl.app p0 (PRl.app ?_ (PRl.app p2 (PRl.app ?_ ?_)))
   ·rw [e1];exact PRl.cons (.bool a1) (PRl.nil W)
   ·rw [e3];exact PRl.cons r3 (PRl.nil W)
   ·rw [e4,as0];exact PRl.cons r4 (PRl.nil W)
end
end Go.Proofs.YtflhfchgdpbhcaaGreat.E
