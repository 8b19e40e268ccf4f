/- It is proved that TxnQueue returns true whatever the lists, the choices, the marks and the answers are; and the tied card. No condition. -/
import Derived.Test.YtnpjififnhjbbaaDoorRows
import Derived.Test.YtnpjififnhjbbaaDoorCards
import Derived.Test.YtnpjififnhjbbaaDoorTie
import Derived.Test.YtnpjififnhjbbaaDoorRE
import Derived.HandedShaped
import Derived.Shelf.Vars
import Derived.WalkKit
import Derived.ProofKit
import Derived.OpenShut
import Derived.ShutString
import Derived.ChangeOld
import Derived.Below
import Derived.SizedLaws
import Derived.Lay
import Derived.SevenTiedAt
import Derived.ChangeSame
import Derived.ChangeSlices
set_option maxRecDepth 100000
namespace Go.Proofs.YtnpjififnhjbbaaDoor.txnQueue
open Go Go.ChangeShapes Go.WideShapes Go.ChangeAt Go.RowKit
set_option linter.unusedVariables false
theorem own :ownKnob Tryd.prog.godebug=none:=by kernel_rfl
theorem laidOut :laidOutB Tryd.prog=true:=by kernel_rfl
open E in
theorem read_lists {H:Type}{enc:TypeId×Value->H}{W:World}{base:Nat}{v:Value}{d:DataW H}{p:List MemPlace}(hv:Value.okWide Tryd.prog W .any base 39 v)(h:DataW.Trod enc Tryd.prog W 0 (fun _=>true) true 39 v d p):∃(f:Bool) (l:List (Bool×List ByteArray)),VR W (.list f 1 (lls l)) v/\∀x∈l,sOk x.2:=by
 obtain ⟨fuel,hf⟩:=h
 obtain ⟨f,l,x,h1,h2,h4⟩:=lists_rd Tryd.underlying39 hf
 have:v=x:=by
  simp only [Value.okWide,Tryd.underlying39] at hv
  cases v<;>simp_all [Value.cells,Cell.okWide,Cell.ok,Tryd.underlying39]
 rw [this]
 exact ⟨f,l,h2,h4⟩
open E in
theorem read_ints {H:Type}{enc:TypeId×Value->H}{W:World}{base:Nat}{v:Value}{d:DataW H}{p:List MemPlace}(hv:Value.okWide Tryd.prog W .any base 41 v)(h:DataW.Trod enc Tryd.prog W 0 (fun _=>true) true 41 v d p):∃(f:Bool) (l:List Int),VR W (.list f 1 (af5 l)) v/\l.length<=maxLen:=by
 obtain ⟨fuel,hf⟩:=h
 obtain ⟨f,l,x,h1,h2,h3,h4⟩:=ints_rd Tryd.underlying41 hf
 have:v=x:=by
  simp only [Value.okWide,Tryd.underlying41] at hv
  cases v<;>simp_all [Value.cells,Cell.okWide,Cell.ok,Tryd.underlying41]
 rw [this]
 exact ⟨f,l,h2,h4⟩
open E in
theorem read_bools {H:Type}{enc:TypeId×Value->H}{W:World}{base:Nat}{v:Value}{d:DataW H}{p:List MemPlace}(hv:Value.okWide Tryd.prog W .any base 40 v)(h:DataW.Trod enc Tryd.prog W 0 (fun _=>true) true 40 v d p):∃(f:Bool) (l:List Bool),VR W (.list f 1 (bls l)) v:=by
 obtain ⟨fuel,hf⟩:=h
 obtain ⟨f,l,x,h1,h2⟩:=bools_rd Tryd.underlying40 hf
 have:v=x:=by
  simp only [Value.okWide,Tryd.underlying40] at hv
  cases v<;>simp_all [Value.cells,Cell.okWide,Cell.ok,Tryd.underlying40]
 rw [this]
 exact ⟨f,l,h2⟩
open E in
theorem walked {W:World}{v0 v1 v2 v3:Value}{m1 m3 m5 m7:Bool}{lists:List (Bool×List ByteArray)}{cm mk:List Bool}{ans:List Int}(hok:∀x∈lists,sOk x.2)(h0:VR W (.list m1 1 (lls lists)) v0)(h1:VR W (.list m3 1 (bls cm)) v1)(h2:VR W (.list m5 1 (bls mk)) v2)(h3:VR W (.list m7 1 (af5 ans)) v3):Calls Tryd.prog 4 #[v0,v1,v2,v3] W fun e w'=>e=.returned (.bool true)/\Below W.heap.size W w':=by
 obtain ⟨s,hs⟩:=queue_is (m1:=m1) (m3:=m3) (m5:=m5) (m7:=m7) (cm:=cm) (mk:=mk) (ans:=ans) hok
 refine (calls0 (w:=W) (args':=#[v0,v1,v2,v3]) RUN_rec (fun _=>rfl) (of_decide_eq_true (by kernel_rfl)) hs ⟨rfl,?_⟩).mono ?_
 ·intro j v x hv hx
  match j,hv,hx with
  | 0,hv,hx=>cases hv;cases hx;exact h0
  | 1,hv,hx=>cases hv;cases hx;exact h1
  | 2,hv,hx=>cases hv;cases hx;exact h2
  | 3,hv,hx=>cases hv;cases hx;exact h3
  | k+4,hv,hx=>simp at hv
 ·rintro e w' ⟨own',v',rfl,hp,hv⟩
  have:v'=.bool true:=by
   have hv:VRel (Mut M0 own') own'.rho w' (.bool true) v':=hv
   cases hv
   rfl
  subst this
  exact ⟨rfl,below0 hp⟩
theorem lifted (os:Os)(started:os.Started)(H:Type)(enc:TypeId×Value->H):
  ReturnsInHanded {} Tryd.checked os 4 .any (fun w args=>(Rows.txnQueueSpec.pre enc Tryd.prog Tryd.f4 [] false w args/\laidMetH Tryd.prog Rows.txnQueueRow.laid w)/\sizedMet enc Tryd.prog Tryd.f4 (OpenSpec.ofChange Rows.txnQueueSpec) false w args)
   (Rows.txnQueueSpec.post enc Tryd.prog Tryd.f4 false true false false):=by
 refine returnsInHanded_of_calls (C:=Tryd.checked) own started (by kernel_rfl)
  (ChangeSpec.witness_shaped (enc:=enc) (C:=Tryd.checked) (os:=os) (X:=fun w _=>laidMetH Tryd.prog Rows.txnQueueRow.laid w) false (World.laidAll Tryd.prog os Rows.txnQueueRow.laid) #[.slice none 0 0,.slice none 0 0,.slice none 0 0,.slice none 0 0] 8 (World.laidAll_os _ _ _)
   (World.shaped_of_ZipB (by kernel_rfl) (by kernel_rfl)) (by kernel_rfl) (by kernel_rfl) (by kernel_rfl)
   (by rw [MakeChecks.laidMetH_plain _ _ _ (by kernel_rfl)];exact laidMet_laidAll _ (by kernel_rfl) (by kernel_rfl))) ?_
 intro w tape i _ hsh _ hok hpre _
 obtain ⟨_,_,_,fn',hfn',_,_,_,_,hval1⟩:=hok
 obtain rfl:fn'=Tryd.f4:=Option.some.inj (hfn'.symm.trans Tryd.func4)
 obtain ⟨⟨⟨ds,gs,before,hw,_⟩,_⟩,_⟩:=hpre
 have hW:=DataW.Whole.of_heap (w':=w.forCall tape i) (by rfl) hw
 suffices hc:Calls Tryd.prog 4 i.args (w.forCall tape i) fun e W'=>∃v,e=.returned v/\Rows.txnQueueSpec.post enc Tryd.prog Tryd.f4 false true false false (w.forCall tape i) i.args v W' by
  refine hc.mono fun e W' ⟨v,he,hp⟩=>?_
  subst he
  exact ChangeSpec.post_blind hp
 have hval0:=hval1
 clear hval1 hw
 generalize w.forCall tape i=W at hW hsh hval0 ⊢
 generalize i.args=args at hW hval0 ⊢
 have hval:∀(j:Nat) t v,Tryd.f4.params[j]? =some t->args[j]? =some v->Value.okWide Tryd.prog W .any w.heap.size t v:=hval0
 have hW':=hW
 obtain ⟨p,q,hA0,hV,rfl,hfz,hnd⟩:=hW
 have hA:DataW.TrodAll enc Tryd.prog W 0 (fun _=>true) true Tryd.f4.params.toList args.toList ds p:=hA0
 rw [Tryd.params4] at hA hval
 obtain ⟨v0,vs0,d0,ds0,p0,q0,hargs,rfl,rfl,h0,r0⟩:=trodAll_cons hA
 obtain ⟨v1,vs1,d1,ds1,p1,q1,rfl,rfl,rfl,h1,r1⟩:=trodAll_cons r0
 obtain ⟨v2,vs2,d2,ds2,p2,q2,rfl,rfl,rfl,h2,r2⟩:=trodAll_cons r1
 obtain ⟨v3,vs3,d3,ds3,p3,q3,rfl,rfl,rfl,h3,r3⟩:=trodAll_cons r2
 obtain ⟨rfl,rfl,rfl⟩:=trodAll_nil r3
 obtain rfl:args= #[v0,v1,v2,v3]:=by cases args;simp_all
 obtain ⟨rfl,rfl⟩:=trodVars_none hV
 have k0:=h0
 have k1:=h1
 have k2:=h2
 have k3:=h3
 have lt0:∀x∈p0,x.block<W.heap.size:=by obtain ⟨m,hm⟩:=k0;exact DataW.trod_lt m _ _ _ hm
 have lt1:∀x∈p1,x.block<W.heap.size:=by obtain ⟨m,hm⟩:=k1;exact DataW.trod_lt m _ _ _ hm
 have lt2:∀x∈p2,x.block<W.heap.size:=by obtain ⟨m,hm⟩:=k2;exact DataW.trod_lt m _ _ _ hm
 have lt3:∀x∈p3,x.block<W.heap.size:=by obtain ⟨m,hm⟩:=k3;exact DataW.trod_lt m _ _ _ hm
 obtain ⟨m0,l0,g0,o0⟩:=read_lists (hval 0 39 v0 rfl rfl) h0
 obtain ⟨m1,l1,g1⟩:=read_bools (hval 1 40 v1 rfl rfl) h1
 obtain ⟨m2,l2,g2⟩:=read_bools (hval 2 40 v2 rfl rfl) h2
 obtain ⟨m3,l3,g3,e3⟩:=read_ints (hval 3 41 v3 rfl rfl) h3
 clear hA0 hval0
 refine (walked o0 g0 g1 g2 g3).mono fun e W' ⟨he,bel⟩=>?_
 subst he
 exact ⟨_,rfl,_,_,_,[],_,[],hW',trodAll_mk1 (shut_bool Tryd.underlying4 _),(trodAll_cons_mk (Below.trod laidOut (by kernel_rfl) (of_decide_eq_true (by kernel_rfl)) k0 bel lt0) (trodAll_cons_mk (Below.trod laidOut (by kernel_rfl) (of_decide_eq_true (by kernel_rfl)) k1 bel lt1) (trodAll_cons_mk (Below.trod laidOut (by kernel_rfl) (of_decide_eq_true (by kernel_rfl)) k2 bel lt2) (trodAll_cons_mk (Below.trod laidOut (by kernel_rfl) (of_decide_eq_true (by kernel_rfl)) k3 bel lt3) trodAll_mk0)))),rfl,bel.frame _,fun h=>by cases h⟩
theorem over :Rows.txnQueueRow.holds Tryd.pinned (OpenSpec.ofChange Rows.txnQueueSpec):=
 OpenClaim.holds_of_wide 4 Tryd.f4 rfl rfl rfl rfl rfl rfl rfl ⟨rfl,rfl,rfl,rfl,rfl⟩ rfl rfl rfl rfl rfl (by kernel_rfl) Tryd.func4 (by kernel_rfl)
  (of_decide_eq_true (by kernel_rfl)) (by unfold Func.isWrapper;first | (rw [if_pos (by decide +kernel)];kernel_rfl) | (rw [if_neg (by decide +kernel)];exact ⟨rfl,rfl⟩))
  (fun os started H enc _=>lifted os started H enc)
theorem proved :Rows.TxnQueueSaid:=over
#print axioms proved
theorem card_holds :Rows.TxnQueueCardSaid:=
 Claim7.holds_tied_plain_at .later [] [.data,.data,.data] true (true,"9d08addb859d9ed6800553b0b8e1de678eccf8a2807840f39dfecfe287bac487") false
  proved (fun _ h=>by cases h) (by kernel_rfl) (fun _ h=>by cases h) txnQueue_row_tie rfl ⟨rfl,rfl⟩ (by kernel_rfl) rfl
  (fun f fn hf hfn=>by
   obtain rfl:f=4:=Option.some.inj ((show Tryd.prog.funcNamed "intermede/intermedelaw27.TxnQueue" =some 4 by kernel_rfl).symm.trans hf) |>.symm
   obtain rfl:fn=Tryd.f4:=(Option.some.inj (Tryd.func4.symm.trans hfn)).symm
   exact ⟨by kernel_rfl,fun j t ht=>by
    rw [Tryd.params4] at ht
    have hm:t∈[39,40,40,41]:=by
     have:=Array.mem_of_getElem? ht
     simpa using this
    have hall:([39,40,40,41].all fun u=>!Tryd.prog.wantsStandIn u)=true:=by kernel_rfl
    exact (show Tryd.prog.wantsStandIn t=false by simpa using List.all_eq_true.1 hall t hm)⟩)
  (by kernel_rfl)
end Go.Proofs.YtnpjififnhjbbaaDoor.txnQueue
namespace Go.Proofs.YtnpjififnhjbbaaDoor
theorem txnQueue_card :Rows.TxnQueueCardSaid:=txnQueue.card_holds
end Go.Proofs.YtnpjififnhjbbaaDoor
