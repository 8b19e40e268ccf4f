/- It is proved that StubTypes returns true for every operation whose reading is of bulk at most 1048576. No other condition. -/
import Derived.Test.YtflhfchgdpbhcaaGreatRows
import Derived.Test.YtflhfchgdpbhcaaGreatR
import Derived.WalkKit
import Derived.ProofKit
import Derived.OpenShut
import Derived.ShutString
import Derived.ChangeOld
import Derived.ChangeSame
import Derived.ChangeSlices
import Derived.Below
import Derived.JoinedCond
set_option maxRecDepth 100000
namespace Go.Proofs.YtflhfchgdpbhcaaGreat.stubTypes
open Go Go.ChangeShapes Go.WideShapes Go.ChangeAt Go.RowKit
set_option linter.unusedVariables false
theorem own :ownKnob Tryz.prog.godebug=none:=by kernel_rfl
theorem laidOut :laidOutB Tryz.prog=true:=by kernel_rfl
open E in
theorem walked {W:World}{o:Opn}{v:Value}(ho:woOk o)(hv:VR W (opv o) v):Calls Tryz.prog 3 #[v] W fun e w'=>e=.returned (.bool true)/\Below W.heap.size W w':=by
 refine (calls0 (w:=W) (args':=#[v]) RUN_rec (fun _=>rfl) (of_decide_eq_true (by kernel_rfl)) (law_is ho) ⟨rfl,?_⟩).mono ?_
 ·intro j x y hx hy
  match j,hx,hy with
  | 0,hx,hy=>cases hx;cases hy;exact hv
  | k+1,hx,hy=>simp at hx
 ·rintro e w' ⟨own',v',rfl,hp,hr⟩
  have:v'=.bool true:=by
   have hr:VRel (Mut M0 own') own'.rho w' (.bool true) v':=hr
   cases hr
   rfl
  subst this
  exact ⟨rfl,below0 hp⟩
open E in
theorem contract (H:Type)(enc:TypeId×Value->H)(W:World)(base:Nat)(args:Array Value)(ds gs:List (DataW H))(before:List MemPlace)
  (hval:∀(j:Nat) t v,Tryz.f3.params[j]? =some t->args[j]? =some v->Value.okWide Tryz.prog W .any base t v)
  (hW:DataW.Whole enc Tryz.prog Tryz.f3.params.toList Rows.stubTypesSpec.vars false W args.toList ds gs before) (hk:Rows.uptoSmall H (ds++gs)=true):
  Calls Tryz.prog 3 args W fun e W'=>∃v,e=.returned v/\Rows.stubTypesSpec.post enc Tryz.prog Tryz.f3 false true false false W args v W':=by
 have hW':=hW
 obtain ⟨p,q,hA0,hV,rfl,hfz,hnd⟩:=hW
 have hA:DataW.TrodAll enc Tryz.prog W 0 (fun _=>true) true Tryz.f3.params.toList args.toList ds p:=hA0
 rw [Tryz.params3] at hA hval
 obtain ⟨v0,vs0,d0,ds0,p0,q0,hargs,rfl,rfl,h0,r0⟩:=trodAll_cons hA
 obtain ⟨rfl,rfl,rfl⟩:=trodAll_nil r0
 obtain rfl:args= #[v0]:=by cases args;simp_all
 obtain ⟨rfl,rfl⟩:=trodVars_none hV
 have k0:=h0
 have lt0:∀x∈p0,x.block<W.heap.size:=by obtain ⟨m,hm⟩:=k0;exact DataW.trod_lt m _ _ _ hm
 have hv0:=hval 0 30 v0 rfl rfl
 simp only [Value.okWide,Tryz.underlying30] at hv0
 obtain ⟨cs,rfl,hcs,_⟩:=hv0
 have hb:Rows.uptoBulkAll [d0]<=1048576:=by
  have:Rows.uptoBulkAll ([d0]++[])<=1048576:=of_decide_eq_true hk
  rwa [List.append_nil] at this
 simp only [Rows.uptoBulkAll] at hb
 obtain ⟨fuel,hf⟩:=h0
 obtain ⟨o,ho,hg,hp⟩:=op_rd (enc:=enc) (W:=W) (n:=fuel) (cs:=(Value.agg cs).cells.toList) hf (by show Rows.uptoBulk d0<=_;omega)
 have hv:VR W (opv o) (.agg cs):=by
  refine VRel.agg _ cs ?_ hg ?_
  ·have:=hp.1
   simp only [Value.cells,Array.length_toList] at this
   exact this.symm
  ·intro j x y hx hy
   exact hp.2 j x y hx (by simpa [Value.cells] using hy)
 clear hA0 hval
 refine (walked ho hv).mono ?_
 rintro e W' ⟨rfl,bel⟩
 exact ⟨_,rfl,_,_,_,[],_,[],hW',trodAll_mk1 (shut_bool Tryz.underlying4 _),(trodAll_cons_mk (Below.trod laidOut (by kernel_rfl) (of_decide_eq_true (by kernel_rfl)) k0 bel lt0) trodAll_mk0),rfl,bel.frame _,fun h=>by cases h⟩
theorem lifted (os:Os)(started:os.Started)(H:Type)(enc:TypeId×Value->H)(F:Stop.Interp):
  ReturnsInHanded {} Tryz.checked os 3 .any ((Rows.OpenSpec.upto Rows.stubTypesSpec).pre6 enc Tryz.prog Tryz.f3 Rows.stubTypesUptoRow.domain false) (((Rows.OpenSpec.upto Rows.stubTypesSpec).at F).post enc Tryz.prog Tryz.f3 false true false false):=by
 refine returnsInHanded_of_cond (C:=Tryz.checked) (s:=Rows.OpenSpec.upto Rows.stubTypesSpec) (k:=Rows.uptoSmall) rfl own started (by kernel_rfl) Tryz.func3
  (OpenSpec.witness (enc:=enc) (C:=Tryz.checked) (s:=Rows.OpenSpec.upto Rows.stubTypesSpec) (k:=Rows.uptoSmall) rfl false ⟨#[],#[.agg #[.string .empty,.bool false,.int .i64 0,.string .empty,.string .empty,.int .i64 0,.int .i64 0,.slice none 0 0,.slice none 0 0,.slice none 0 0,.slice none 0 0,.slice none 0 0,.slice none 0 0]],[]⟩ 8 (by kernel_rfl) (by kernel_rfl) (by kernel_rfl)
   (x:=([.agg [.lit (.string []),.lit (.bool false),.agg [.lit (.int .i64 0),.lit (.string []),.lit (.string []),.lit (.int .i64 0),.lit (.int .i64 0),.nil,.nil,.nil,.nil],.nil,.nil]],[],[])) (by kernel_rfl) rfl (by kernel_rfl)) ?_
 intro W base args ds gs before hval hW _ hk _
 exact contract H enc W base args ds gs before hval hW hk
theorem over :Rows.stubTypesUptoRow.holds Tryz.pinned (Rows.OpenSpec.upto Rows.stubTypesSpec):=
 OpenClaim.holds_of_cond 3 Tryz.f3 rfl rfl rfl rfl rfl rfl rfl ⟨rfl,rfl,rfl,rfl,rfl⟩ rfl rfl rfl rfl rfl (by kernel_rfl) Tryz.func3 (by kernel_rfl)
  (of_decide_eq_true (by kernel_rfl)) (by unfold Func.isWrapper;first | (rw [if_pos (by decide +kernel)];kernel_rfl) | (rw [if_neg (by decide +kernel)];exact ⟨rfl,rfl⟩))
  (fun os started H enc _ F=>lifted os started H enc F)
theorem proved :Rows.StubTypesUptoSaid:=over
#print axioms proved
end Go.Proofs.YtflhfchgdpbhcaaGreat.stubTypes
namespace Go.Proofs.YtflhfchgdpbhcaaGreat
theorem stubTypes_holds :Rows.StubTypesUptoSaid:=stubTypes.proved
end Go.Proofs.YtflhfchgdpbhcaaGreat
