/- It is proved that a region that draws its order may be read with masks. No condition beyond the lemmas' own. -/
import Derived.Test.YtnpjififnhjbbaaDoorE6
namespace Go.Proofs.YtnpjififnhjbbaaDoor.E
open Go
structure Msk where
 i:Nat
 bit:Nat
 rm:Nat
 fr:Bool
 bm:Nat
def orL :List Nat->Nat
 | []=>0
 | j::r=>Nat.lor (Nat.pow 2 j) (orL r)
theorem aX3 (j:Nat):∀l:List Nat,(orL l).testBit j=l.contains j
 | []=>by simp [orL]
 | k::r=>by
  have ih:=aX3 j r
  show ((2 ^ k) ||| orL r).testBit j=_
  rw [Nat.testBit_or,ih,Nat.testBit_two_pow,List.contains_cons]
  by_cases h:k=j
  ·subst h;simp
  ·have h':¬j=k:=fun e=>h e.symm
   simp [h,h']
section
variable (P:Program) (H:ae2)
def pairOk (f:FuncId)(os:Array Oper)(p:Nat)(o:Oper)(i:Nat):Bool:=match os[i]? with
 | none=>true
 | some x=>(x.after.any fun e=>Region.binds .any e&&e.on==p)||(Oper.apart os o x&&(match cls P H f o with
   | 0=>true
   | 1=>Nat.blt (cls P H f x) 3||!(turns H f x).1
   | _=>Nat.blt (cls P H f x) 3||!(turns H f x).2))
def maskAt (f:FuncId)(os:Array Oper)(i:Nat):Msk:=match os[i]? with
 | none=>⟨i,Nat.pow 2 i,Nat.pow 2 i,false,0⟩
 | some o=>⟨i,Nat.pow 2 i,orL ((o.after.toList.filter fun e=>Region.binds .any e).map (·.on)),Nat.blt (cls P H f o) 3,orL ((List.range os.size).filter fun j=>j==i||pairOk P H f os i o j)⟩
def aR4 (f:FuncId)(os:Array Oper):List Msk:=(List.range os.size).map (maskAt P H f os)
def rdB (S:Nat)(m:Msk):Bool:=bif Nat.beq (Nat.land m.bit S) 0 then Nat.beq (Nat.land m.rm S) m.rm else false
def frB (full S:Nat)(m:Msk):Bool:=bif m.fr then Nat.beq (Nat.lor m.bm S) full else false
def rdyM (S:Nat):List Msk->List Msk
 | []=>[]
 | m::r=>bif rdB S m then m::rdyM S r else rdyM S r
def findM (full S:Nat):List Msk->Option Msk
 | []=>none
 | m::r=>bif frB full S m then some m else findM full S r
def aS7 (rec:Rec)(f:FuncId)(os:Array Oper)(ms:List Msk)(full:Nat)(K:St->R):Nat->Nat->St->R
 | 0,S,st=>ck (rdyM S ms).isEmpty (K st)
 | n+1,S,st=>match rdyM S ms with
  | []=>K st
  | a::r=>match findM full S (a::r) with
   | some m=>opDT P H rec f os m.i st (aS7 rec f os ms full K n (Nat.lor S m.bit))
   | none=>as4 ((a::r).map fun m=>opDT P H rec f os m.i st (aS7 rec f os ms full K n (Nat.lor S m.bit)))
end
theorem be4 (S:Nat):∀ms,rdyM S ms=ms.filter (rdB S)
 | []=>rfl
 | m::r=>by
  simp only [rdyM,List.filter_cons,be4 S r]
  cases rdB S m<;>rfl
theorem bq5 (full S:Nat):∀ms,findM full S ms=ms.find? (frB full S)
 | []=>rfl
 | m::r=>by
  simp only [findM,List.find?_cons,bq5 full S r]
  cases frB full S m<;>rfl
theorem land_eq (m S:Nat):Nat.beq (Nat.land m S) m=true↔∀j,m.testBit j=true->S.testBit j=true:=by
 constructor
 ·intro h j hj
  have h:=Nat.eq_of_beq_eq_true h
  have:(m &&& S).testBit j=m.testBit j:=by rw [show m &&& S=m from h]
  rw [Nat.testBit_and,hj] at this
  simpa using this
 ·intro h
  have:m &&& S=m:=by
   apply Nat.eq_of_testBit_eq
   intro j
   rw [Nat.testBit_and]
   cases hj:m.testBit j with
   | false=>rfl
   | true=>rw [h j hj];rfl
  rw [show Nat.land m S=m from this]
  exact Nat.beq_refl m
theorem bit_clear (i S:Nat):Nat.beq (Nat.land (Nat.pow 2 i) S) 0= !S.testBit i:=by
 cases h:S.testBit i with
 | true=>
  cases hb:Nat.beq (Nat.land (Nat.pow 2 i) S) 0 with
  | false=>rfl
  | true=>
   exfalso
   have hb:=Nat.eq_of_beq_eq_true hb
   have:((2 ^ i) &&& S).testBit i=(0:Nat).testBit i:=by rw [show (2 ^ i) &&& S=0 from hb]
   rw [Nat.testBit_and,Nat.testBit_two_pow,h] at this
   simp at this
 | false=>
  have:(2 ^ i) &&& S=0:=by
   apply Nat.eq_of_testBit_eq
   intro j
   rw [Nat.testBit_and,Nat.testBit_two_pow]
   by_cases hij:i=j
   ·subst hij;rw [h];simp
   ·simp [hij]
  rw [show Nat.land (Nat.pow 2 i) S=0 from this]
  rfl
theorem lor_full (m S n:Nat)(hm:∀j,m.testBit j=true->j<n)(hS:∀j,S.testBit j=true->j<n):Nat.beq (Nat.lor m S) (2 ^ n-1)=true↔∀j,j<n->(m.testBit j||S.testBit j)=true:=by
 constructor
 ·intro h j hj
  have h:=Nat.eq_of_beq_eq_true h
  have:(m ||| S).testBit j=(2 ^ n-1).testBit j:=by rw [show m ||| S=2 ^ n-1 from h]
  rw [Nat.testBit_or,Nat.testBit_two_pow_sub_one] at this
  rw [this]
  simpa using hj
 ·intro h
  have:m ||| S=2 ^ n-1:=by
   apply Nat.eq_of_testBit_eq
   intro j
   rw [Nat.testBit_or,Nat.testBit_two_pow_sub_one]
   by_cases hj:j<n
   ·rw [h j hj];simpa using hj
   ·have h1:m.testBit j=false:=by
     cases hb:m.testBit j with
     | false=>rfl
     | true=>exact absurd (hm j hb) hj
    have h2:S.testBit j=false:=by
     cases hb:S.testBit j with
     | false=>rfl
     | true=>exact absurd (hS j hb) hj
    rw [h1,h2]
    simpa using hj
  rw [show Nat.lor m S=2 ^ n-1 from this]
  exact Nat.beq_refl _
section
variable {P:Program} {H:ae2}
def RelM (n S:Nat)(A:Array Bool):Prop:=A.size=n/\∀i,S.testBit i=A.getD i false
theorem RelM.zero (n:Nat):RelM n 0 (Array.replicate n false):=⟨by simp,fun i=>by
 rw [Nat.zero_testBit]
 simp only [Array.getD_eq_getD_getElem?,Array.getElem?_replicate]
 split<;>rfl⟩
theorem RelM.lt {n S:Nat}{A:Array Bool}(h:RelM n S A){j:Nat}(hj:S.testBit j=true):j<n:=by
 rw [h.2 j] at hj
 apply Nat.lt_of_not_le
 intro hle
 rw [Array.getD_eq_getD_getElem?,Array.getElem?_eq_none (by rw [h.1];exact hle)] at hj
 cases hj
theorem RelM.in {n S:Nat}{A:Array Bool}(h:RelM n S A){j:Nat}(hj:j<n):A.getD j true=S.testBit j:=by
 rw [h.2 j,Array.getD_eq_getD_getElem?,Array.getD_eq_getD_getElem?,Array.getElem?_eq_getElem (by rw [h.1];exact hj)]
 rfl
theorem RelM.set {n S:Nat}{A:Array Bool}(h:RelM n S A){i:Nat}(hi:i<n):RelM n (Nat.lor S (2 ^ i)) (A.setIfInBounds i true):=⟨by rw [Array.size_setIfInBounds];exact h.1,fun j=>by
 show (S ||| 2 ^ i).testBit j=_
 rw [Nat.testBit_or,Nat.testBit_two_pow,h.2 j,Array.getD_eq_getD_getElem?,Array.getD_eq_getD_getElem?,Array.getElem?_setIfInBounds]
 by_cases hij:i=j
 ·subst hij
  have:i<A.size:=by rw [h.1];exact hi
  simp [this]
 ·simp [hij]⟩
theorem bj6 (f:FuncId)(os:Array Oper)(i:Nat):(maskAt P H f os i).i=i/\(maskAt P H f os i).bit=2 ^ i:=by
 unfold maskAt
 split<;>exact ⟨rfl,rfl⟩
theorem rdB_eq (f:FuncId){os:Array Oper}{S:Nat}{A:Array Bool}(h:RelM os.size S A){i:Nat}(hi:i<os.size):
  rdB S (maskAt P H f os i)=(!A.getD i true&&((os[i]?).map (·.after.all fun e=>!Region.binds .any e||A.getD e.on false)).getD false):=by
 rw [h.in hi]
 unfold rdB
 rw [(bj6 f os i).2,show (2 ^ i)=Nat.pow 2 i from rfl,bit_clear]
 cases S.testBit i with
 | true=>rfl
 | false=>
  simp only [Bool.not_false,cond_true,Bool.true_and]
  unfold maskAt
  rw [Array.getElem?_eq_getElem hi]
  simp only [Option.map_some,Option.getD_some]
  rw [Bool.eq_iff_iff,land_eq,Array.all_eq_true']
  simp only [aX3,List.contains_iff_mem,List.mem_map,List.mem_filter,Array.mem_toList_iff]
  constructor
  ·intro hh e he
   cases hb:Region.binds .any e with
   | false=>rfl
   | true=>rw [←h.2];simp only [Bool.not_true,Bool.false_or];exact hh e.on ⟨e,⟨he,hb⟩,rfl⟩
  ·rintro hh j ⟨e,⟨he,hb⟩,rfl⟩
   have:=hh e he
   rw [hb,←h.2] at this
   simpa using this
theorem frB_eq (f:FuncId){os:Array Oper}{S:Nat}{A:Array Bool}(h:RelM os.size S A){i:Nat}(hi:i<os.size):frB (2 ^ os.size-1) S (maskAt P H f os i)=free P H f os A i:=by
 unfold frB maskAt free
 rw [Array.getElem?_eq_getElem hi]
 simp only
 cases hc:Nat.blt (cls P H f os[i]) 3 with
 | false=>rfl
 | true=>
  simp only [cond_true,Bool.true_and]
  rw [Bool.eq_iff_iff,lor_full _ _ _ (fun j hj=>?_) (fun j hj=>h.lt hj),List.all_eq_true]
  ·constructor
   ·intro hh j hj
    have hj:=List.mem_range.1 hj
    have:=hh j hj
    rw [aX3,Bool.or_eq_true,List.contains_iff_mem,List.mem_filter] at this
    rw [h.in hj]
    rcases this with ⟨_,hp⟩ | hs
    ·rw [Bool.or_eq_true] at hp
     rcases hp with hp | hp
     ·rw [hp];rfl
     ·unfold pairOk at hp
      rw [Bool.or_eq_true]
      exact .inr hp
    ·rw [hs];simp
   ·intro hh j hj
    have:=hh j (List.mem_range.2 hj)
    rw [h.in hj] at this
    rw [aX3,Bool.or_eq_true,List.contains_iff_mem,List.mem_filter]
    simp only [Bool.or_eq_true] at this
    rcases this with (hp | hp) | hp
    ·exact .inl ⟨List.mem_range.2 hj,by rw [hp];rfl⟩
    ·exact .inr hp
    ·exact .inl ⟨List.mem_range.2 hj,by rw [Bool.or_eq_true];right;unfold pairOk;exact hp⟩
  ·rw [aX3,List.contains_iff_mem,List.mem_filter] at hj
   exact List.mem_range.1 hj.1
theorem rdyM_eq (f:FuncId){os:Array Oper}{S:Nat}{A:Array Bool}(h:RelM os.size S A):rdyM S (aR4 P H f os)=(Region.ready .any os A).map (maskAt P H f os):=by
 rw [be4]
 unfold aR4 Region.ready
 rw [List.filter_map]
 congr 1
 exact List.filter_congr fun i hi=>rdB_eq f h (List.mem_range.1 hi)
theorem ready_lt {os:Array Oper}{A:Array Bool}{i:Nat}(h:i∈Region.ready .any os A):i<os.size:=List.mem_range.1 (List.mem_filter.1 h).1
theorem bz5 {rec:Rec}{f:FuncId}{os:Array Oper}{K:St->R}:∀(n:Nat) (S:Nat) (A:Array Bool),RelM os.size S A->aS7 P H rec f os (aR4 P H f os) (2 ^ os.size-1) K n S=au6 P H rec f os K n A
 | 0,S,A,h=>by
  funext st
  simp only [aS7,au6]
  rw [rdyM_eq f h]
  cases Region.ready .any os A<;>rfl
 | n+1,S,A,h=>by
  funext st
  simp only [aS7,au6]
  rw [rdyM_eq f h]
  have hlt:∀i∈Region.ready .any os A,i<os.size:=fun i hi=>ready_lt hi
  have step:∀i∈Region.ready .any os A,opDT P H rec f os (maskAt P H f os i).i st (aS7 P H rec f os (aR4 P H f os) (2 ^ os.size-1) K n (Nat.lor S (maskAt P H f os i).bit))=opDT P H rec f os i st (au6 P H rec f os K n (A.setIfInBounds i true)):=by
   intro i hi
   rw [(bj6 f os i).1,(bj6 f os i).2,bz5 n _ _ (h.set (hlt i hi))]
  generalize hl:Region.ready .any os A=l at hlt step
  have hfind:findM (2 ^ os.size-1) S (l.map (maskAt P H f os))=(l.find? (free P H f os A)).map (maskAt P H f os):=by
   rw [bq5,List.find?_map]
   congr 1
   clear hl step
   induction l with
   | nil=>rfl
   | cons a r ih=>
    rw [List.find?_cons,List.find?_cons]
    have:(frB (2 ^ os.size-1) S∘maskAt P H f os) a=free P H f os A a:=frB_eq f h (hlt a (by simp))
    rw [this,ih fun i hi=>hlt i (List.mem_cons_of_mem _ hi)]
  cases l with
  | nil=>rfl
  | cons a r=>
   have hfind':=hfind
   rw [List.map_cons] at hfind' ⊢
   simp only [hfind']
   cases hfd:(a::r).find? (free P H f os A) with
   | some p=>simp only [Option.map_some];exact step p (List.mem_of_find?_eq_some hfd)
   | none=>
    simp only [Option.map_none]
    rw [←List.map_cons,List.map_map]
    congr 1
    exact List.map_congr_left fun i hi=>step i hi
theorem bq9 {rec:Rec}{f:FuncId}{os:Array Oper}{K:St->R}:aS7 P H rec f os (aR4 P H f os) (2 ^ os.size-1) K os.size 0=au6 P H rec f os K os.size (Array.replicate os.size false):=bz5 _ _ _ (RelM.zero _)
end
end Go.Proofs.YtnpjififnhjbbaaDoor.E
