/- What a law's argument reads is one of the evaluator's values. No condition beyond the lemmas' own. -/
import Derived.Test.YtnpjififnhjbbaaDoorRows
import Derived.Test.YtnpjififnhjbbaaDoorHO
import Derived.Test.YtnpjififnhjbbaaDoorP5
import Derived.WalkKit
import Derived.ProofKit
set_option maxRecDepth 100000
namespace Go.Proofs.YtnpjififnhjbbaaDoor.E
open Go Go.ChangeShapes
abbrev VR (W:World)(v:V)(x:Value):Prop:=VRel (Mut M0 own0) own0.rho W v x
theorem no_mut0 (b x:Nat):¬Mut M0 own0 b x:=by
 rintro (h | h)
 ·exact h
 ·exact no_has0 b x h
def PRl (W:World)(l:List V)(cs:List Value):Prop:=l.length=cs.length/\∀(j:Nat) (v:V) (c:Value),l[j]? =some v->cs[j]? =some c->VR W v c
theorem PRl.nil (W:World):PRl W [] []:=⟨rfl,fun j v c h=>by simp at h⟩
theorem PRl.cons {W:World}{v:V}{c:Value}{l:List V}{cs:List Value}(h:VR W v c)(hl:PRl W l cs):PRl W (v::l) (c::cs):=by
 refine ⟨by simp [hl.1],fun j v' c' h1 h2=>?_⟩
 cases j with
 | zero=>simp at h1 h2;subst h1;subst h2;exact h
 | succ j=>exact hl.2 j v' c' (by simpa using h1) (by simpa using h2)
section
variable {H:Type} {enc:TypeId×Value->H} {W:World}
theorem elems_rd {α:Type}{view:α->V}{Q:α->Prop}{K:Nat}{a:Addr}{T:List Value->Option (DataW H×List MemPlace)}
  (hel:∀cs y,T cs=some y->∃x:α,Q x/\(view x).cells.length=K/\ac5 (view x).cells=true/\PRl W (view x).cells cs):
  ∀(l:List (DataW H×List MemPlace)) (off:Nat),(∀i y,l[i]? =some y->(W.cells? 0 (a.add ((off+i)*K)) K).bind T=some y) ->
   ∃ts:List α,(ts.length=l.length/\∀x∈ts,Q x)/\(∀x∈ts,(view x).cells.length=K/\ac5 (view x).cells=true)/\∀(i:Nat) (x:α),ts[i]? =some x->∃cs,W.cells? 0 (a.add ((off+i)*K)) K=some cs/\PRl W (view x).cells cs
 | [],_,_=>⟨[],⟨rfl,fun x h=>by simp at h⟩,fun x h=>by simp at h,fun i x h=>by simp at h⟩
 | y::r,off,h=>by
  obtain ⟨cs,h1,h2⟩:=Option.bind_eq_some_iff.1 (h 0 y rfl)
  obtain ⟨x,q1,q2,q3,q4⟩:=hel cs y h2
  obtain ⟨ts,t1,t2,t3⟩:=elems_rd hel r (off+1) (fun i y hy=>by
   have:=h (i+1) y (by simpa using hy)
   rw [show off+1+i=off+(i+1) by omega];exact this)
  refine ⟨x::ts,⟨by simp [t1.1],fun z hz=>?_⟩,fun z hz=>?_,fun i z hz=>?_⟩
  ·rcases List.mem_cons.1 hz with e | hz
   ·rw [e];exact q1
   ·exact t1.2 z hz
  ·rcases List.mem_cons.1 hz with e | hz
   ·rw [e];exact ⟨q2,q3⟩
   ·exact t2 z hz
  ·cases i with
   | zero=>simp at hz;subst hz;exact ⟨cs,h1,q4⟩
   | succ i=>
    obtain ⟨cs',c1,c2⟩:=t3 i z (by simpa using hz)
    exact ⟨cs',by rw [show off+(i+1)=off+1+i by omega];exact c1,c2⟩
theorem bC6 {α:Type}{view:α->V}{Q:α->Prop}{t e:TypeId}{K fuel:Nat}{cs:List Value}{x:DataW H×List MemPlace}(ht:Tryd.prog.underlying t=some (.slice e))(hc:Tryd.prog.cellsOf e=K)(hK:0<K)
  (hel:∀n,n<fuel->∀cs y,DataW.trod enc Tryd.prog W 0 (fun _=>true) true n e cs=some y->∃x:α,Q x/\(view x).cells.length=K/\ac5 (view x).cells=true/\PRl W (view x).cells cs)
  (h:DataW.trod enc Tryd.prog W 0 (fun _=>true) true fuel t cs=some x):
  ∃(f:Bool) (ts:List α) (v:Value),cs=[v]/\VR W (.list f K (ts.map view)) v/\(f=false->ts=[])/\(∀x∈ts,Q x)/\ts.length<=maxLen:=by
 rcases DataW.trod_slice ht h with ⟨rfl,rfl⟩ | ⟨a,len,cap,elems,rest,n,hn,rfl,rfl,hb,hl,hm,hlen,hE,hsp,hns⟩
 ·exact ⟨false,[],_,rfl,.nillist K,fun _=>rfl,fun x h=>by simp at h,Nat.zero_le _⟩
 ·obtain ⟨hrl,hrest⟩:=hsp rfl
  rw [hc] at hE hrest
  have hel':=hel n (by omega)
  obtain ⟨ts,t1,t2,t3⟩:=elems_rd (view:=view) (Q:=Q) (K:=K) (a:=a) hel' elems 0 (fun i y hy=>by
   have hi:=(List.getElem?_eq_some_iff.1 hy).1
   rw [Nat.zero_add,hE i (by omega),hy])
  have htl:ts.length=len:=by rw [t1.1];exact hlen
  obtain ⟨b,o,sp⟩:=a
  have spn:sp=none∨cap=0:=by
   by_cases hcap:cap=0
   ·exact .inr hcap
   ·left
    have hz:∃y,(W.cells? 0 ((⟨b,o,sp⟩:Addr).add (0*K)) K).bind (DataW.trod enc Tryd.prog W 0 (fun _=>true) true n e)=some y:=by
     by_cases h0:0<len
     ·obtain ⟨y,hy⟩:=getL (l:=elems) (i:=0) (by omega)
      exact ⟨y,by rw [hE 0 h0,hy]⟩
     ·obtain ⟨y,hy⟩:=getL (l:=rest) (i:=0) (by omega)
      have:=hrest 0 (by omega)
      rw [hy,show len+0=0 by omega] at this
      exact ⟨y,this⟩
    obtain ⟨y,hy⟩:=hz
    obtain ⟨cs,h1,_⟩:=Option.bind_eq_some_iff.1 hy
    obtain ⟨_,g2,g3⟩:=World.cells?_some h1
    have:=g3 0 hK
    obtain ⟨c,hc0⟩:=getL (l:=cs) (i:=0) (by omega)
    rw [hc0,Nat.zero_mul] at this
    have e0:((⟨b,o,sp⟩:Addr).add 0).add 0=⟨b,o,sp⟩:=rfl
    rw [e0] at this
    unfold World.cell? at this
    cases sp with
    | none=>rfl
    | some q=>
     exfalso
     split at this
     ·simp at this
     ·cases this
  have look:∀(i:Nat) (z:α) (j:Nat) (v:V),ts[i]? =some z->(view z).cells[j]? =some v->∃c,W.cell? ⟨b,o+i*K+j,none⟩=some c/\VR W v c:=by
   intro i z j v hz hv
   have hi:=(List.getElem?_eq_some_iff.1 hz).1
   have hsn:sp=none:=by rcases spn with h | h;exact h;omega
   subst hsn
   obtain ⟨cs,c1,c2⟩:=t3 i z hz
   obtain ⟨_,g2,g3⟩:=World.cells?_some c1
   have hj:j<K:=by rw [←(t2 z (List.mem_of_getElem? hz)).1];exact (List.getElem?_eq_some_iff.1 hv).1
   obtain ⟨c,hc0⟩:=getL (l:=cs) (i:=j) (by omega)
   have:=g3 j hj
   rw [Nat.zero_add,an1,an1,hc0] at this
   exact ⟨c,this,c2.2 j v c hv hc0⟩
  refine ⟨true,ts,_,rfl,VRel.list K (ts.map view) b o cap (fun i j=>(W.cell? ⟨b,o+i*K+j,none⟩).getD undef) len (by rw [List.length_map];exact htl) hl ?_ ?_ ?_ ?_ sp spn,(fun h=>by cases h),t1.2,by rw [htl];omega⟩
  ·intro v hv
   obtain ⟨z,hz,rfl⟩:=List.mem_map.1 hv
   exact (t2 z hz).1
  ·intro v hv
   obtain ⟨z,hz,rfl⟩:=List.mem_map.1 hv
   exact (t2 z hz).2
  ·intro i v j u hv hu
   rw [List.getElem?_map] at hv
   obtain ⟨z,hz,rfl⟩:=Option.map_eq_some_iff.1 hv
   obtain ⟨c,c1,_⟩:=look i z j u hz hu
   rw [c1]
   exact ⟨rfl,no_mut0 _ _⟩
  ·intro i v j u hv hu
   rw [List.getElem?_map] at hv
   obtain ⟨z,hz,rfl⟩:=Option.map_eq_some_iff.1 hv
   obtain ⟨c,c1,c2⟩:=look i z j u hz hu
   show VR W u ((W.cell? ⟨b,o+i*K+j,none⟩).getD undef)
   rw [c1]
   exact c2
theorem k3 :Tryd.prog.cellsOf 3=1:=by kernel_rfl
theorem k9 :Tryd.prog.cellsOf 9=1:=by kernel_rfl
theorem str_rd {n:Nat}{cs:List Value}{y:DataW H×List MemPlace}(h:DataW.trod enc Tryd.prog W 0 (fun _=>true) true n 9 cs=some y):∃s:ByteArray,s.size<=maxLen/\(V.str s).cells.length=1/\ac5 (V.str s).cells=true/\PRl W (V.str s).cells cs:=by
 obtain ⟨s,rfl,rfl,hs⟩:=DataW.trod_string Tryd.underlying9 h
 exact ⟨s,hs,rfl,rfl,PRl.cons (.str s) (PRl.nil W)⟩
theorem int_rd {n:Nat}{cs:List Value}{y:DataW H×List MemPlace}(h:DataW.trod enc Tryd.prog W 0 (fun _=>true) true n 3 cs=some y):∃x:Int,True/\(V.int .i64 x).cells.length=1/\ac5 (V.int .i64 x).cells=true/\PRl W (V.int .i64 x).cells cs:=by
 obtain ⟨x,rfl,rfl,_⟩:=DataW.trod_int Tryd.underlying3 h
 exact ⟨x,trivial,rfl,rfl,PRl.cons (.int .i64 x) (PRl.nil W)⟩
theorem strs_rd {t n:Nat}(ht:Tryd.prog.underlying t=some (.slice 9)){cs:List Value}{y:DataW H×List MemPlace}(h:DataW.trod enc Tryd.prog W 0 (fun _=>true) true n t cs=some y):∃(f:Bool) (l:List ByteArray) (v:Value),cs=[v]/\VR W (.list f 1 (aa1 l)) v/\(f=false->l=[])/\sOk l:=by
 obtain ⟨f,ts,v,h1,h2,h3,h4,h5⟩:=bC6 (view:=V.str) (Q:=fun s=>s.size<=maxLen) ht k9 (by omega) (fun n _ cs y h=>str_rd h) h
 refine ⟨f,ts,v,h1,h2,h3,?_,fun s hs=>?_⟩
 ·have:ts.length<=9223372036854775807:=h5
  omega
 ·have:s.size<=9223372036854775807:=h4 s hs
  omega
theorem ints_rd {t n:Nat}(ht:Tryd.prog.underlying t=some (.slice 3)){cs:List Value}{y:DataW H×List MemPlace}(h:DataW.trod enc Tryd.prog W 0 (fun _=>true) true n t cs=some y):∃(f:Bool) (l:List Int) (v:Value),cs=[v]/\VR W (.list f 1 (af5 l)) v/\(f=false->l=[])/\l.length<=maxLen:=by
 obtain ⟨f,ts,v,h1,h2,h3,h4,h5⟩:=bC6 (view:=fun x=>V.int .i64 x) (Q:=fun _=>True) ht k3 (by omega) (fun n _ cs y h=>int_rd h) h
 exact ⟨f,ts,v,h1,h2,h3,h5⟩
end
end Go.Proofs.YtnpjififnhjbbaaDoor.E
