/- It is proved what a run that begins without objects says of a call at an untouched world, and of given functions. No condition beyond the lemmas' own. -/
import Derived.Test.YtflhfchgdpbhcaaGreatEXM
import Derived.Below
namespace Go.Proofs.YtflhfchgdpbhcaaGreat.E
open Go Go.RowKit
abbrev own0 :Own:=fun _=>none
abbrev M0 :Nat->Nat->Prop:=fun _ _=>False
theorem sr0 (P:Program)(w:World):SR P M0 own0 [] w where
 base:=⟨fun k r k' r' _ _ h=>(by cases h),fun id r h=>(by cases h),fun k r h=>(by cases h),fun k r b x h=>(by cases h),fun k r h=>(by cases h)⟩
 objs:=fun id o h=>by cases h
 newObj:=fun _ _=>⟨rfl,rfl⟩
 spare:=fun id off r h=>by cases h
theorem calls0 {P:Program}{H:ae5}{rec:Rec}(hr:aS2 P H rec)(hg:∀g,H.glob g=none){f:FuncId}(hf:f<P.funcs.size){args:List V}{vs:List V}{s:List O}(h:rec f args []=some (.ret vs s)){args':Array Value}{w:World}
  (ha:Args (Mut M0 own0) own0.rho w args args'):Calls P f args' w fun e w'=>∃own' v',e=.returned v'/\aE5 P M0 own0 w own' w' s/\VRel (Mut M0 own') own'.rho w' (one vs) v':=by
 have:=hr.fn f hf args [] (.ret vs s) h M0 own0 w args' (sr0 P w) (fun _ _=>rfl) (fun b x h=>h.elim) ha (fun g cs hc=>by rw [hg] at hc;cases hc)
 refine this.mono ?_
 rintro e w' ⟨own',v',h1,h2,h3,_⟩
 exact ⟨own',v',h1,h2,h3⟩
theorem no_has0 (b x:Nat):¬own0.has b x:=by rintro ⟨k,r,h,_⟩;cases h
theorem below0 {P:Program}{own':Own}{w w':World}{s:List O}(h:aE5 P M0 own0 w own' w' s):Below w.heap.size w w':=
 ⟨h.keep.os,h.keep.tape,h.keep.output,h.keep.size,fun k hk=>h.keep.block k hk fun x=>no_has0 k x⟩
section
variable {P:Program} {H:ae5} {mo:Nat->Nat->Prop} {own:Own} {s:List O} {w w':World}
end
end Go.Proofs.YtflhfchgdpbhcaaGreat.E
