/- It is proved of what the evaluator is told of this program that it holds, so that an evaluation is worth a call. No condition. -/
import Derived.Test.YtflhfchgdpbhcaaGreatBR
import Derived.Test.YtflhfchgdpbhcaaGreatLH
import Derived.KernelRfl
set_option maxRecDepth 100000
namespace Go.Proofs.YtflhfchgdpbhcaaGreat.E
open Go Go.RowKit
theorem hmixed :Tryz.prog.follows .mixedOrders=true:=by kernel_rfl
theorem lkM_mem :∀{l:List (Nat×String×Nat)} {t:Nat} {m:String} {g:Nat},lkM l t m=some g->(t,m,g)∈l
 | [],t,m,g,h=>by cases h
 | (k,n,g')::r,t,m,g,h=>by
  simp only [lkM] at h
  cases hb:(Nat.beq k t&&decide (n=m)) with
  | true=>
   rw [hb] at h
   simp only [cond_true,Option.some.injEq] at h
   simp only [Bool.and_eq_true,decide_eq_true_eq] at hb
   have:=Nat.eq_of_beq_eq_true hb.1
   rw [←h,←this,←hb.2]
   exact List.mem_cons_self
  | false=>rw [hb] at h;exact List.mem_cons_of_mem _ (lkM_mem h)
def AllM :List (Nat×String×Nat)->Prop
 | []=>True
 | p::r=>(∀(v:Value) (w:World),(method (Tryz.prog.types.size+Made.depth) p.1 v p.2.1).run Tryz.prog w=.ok (p.2.2,v) w)/\AllM r
theorem AllM.mem :∀{l:List (Nat×String×Nat)} {p:Nat×String×Nat},AllM l->p∈l->∀(v:Value) (w:World),(method (Tryz.prog.types.size+Made.depth) p.1 v p.2.1).run Tryz.prog w=.ok (p.2.2,v) w
 | [],p,_,h=>by cases h
 | q::r,p,⟨h1,h2⟩,h=>by
  rcases List.mem_cons.1 h with h | h
  ·rw [h];exact h1
  ·exact AllM.mem h2 h
theorem allM :AllM hMeth:=by
 unfold hMeth
 repeat' first
  | exact trivial
  | (refine ⟨fun v w=>?_,?_⟩;· kernel_rfl)
theorem hmeth (t:Nat)(m:String)(g:Nat)(h:HH.meth t m=some g)(v:Value)(w:World):(method (Tryz.prog.types.size+Made.depth) t v m).run Tryz.prog w=.ok (g,v) w:=
 allM.mem (lkM_mem (show lkM hMeth t m=some g from h)) v w
theorem hok (g:Nat)(h:HH.ok g=true)(args:Array Value)(w:World):(callFunc g args).run Tryz.prog w=.ok (.enter g args) w:=ok_of hok_all g h args w
theorem hfn (g:Nat)(h:HH.ok g=true):g<Tryz.prog.funcs.size:=by
 have hm:(g,true)∈hOk:=lk_mem (show lk false hOk g=true from h) (by simp)
 have:=List.all_eq_true.1 hok_fn _ hm
 simpa [Nat.blt_eq] using this
theorem hext (g:Nat)(e:List V->Option V)(h:HH.ext g=some e):False:=by
 have h:extOf g=some e:=h
 unfold extOf at h
 split at h
 ·rename_i h1;cases h1
 ·cases h
theorem hHH :HOk Tryz.prog HH:=⟨hmixed,fun g e h=>(hext g e h).elim,hok,hfn,(fun g cs h=>by cases h),hmeth⟩
theorem RUN_rec :aS2 Tryz.prog HH RUN:=run_rec hHH (fun f g h=>by cases h) (fun f g h=>by cases h)
theorem no_mut0 (b x:Nat):¬Mut M0 own0 b x:=by
 rintro (h | h)
 ·exact h
 ·exact no_has0 b x h
end Go.Proofs.YtflhfchgdpbhcaaGreat.E
