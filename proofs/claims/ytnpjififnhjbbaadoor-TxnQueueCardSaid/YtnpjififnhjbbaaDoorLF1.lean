/- It is proved of functions that TxnQueue reaches what their evaluation is, in plain words. No condition. -/
import Derived.Test.YtnpjififnhjbbaaDoorLH
set_option maxRecDepth 100000
set_option maxHeartbeats 40000
namespace Go.Proofs.YtnpjififnhjbbaaDoor.E
open Go
namespace aa4
end aa4
namespace ax6
noncomputable def b (rr:Rec)(_dd:Option V->Rec)(i1 o2:Nat)(a3:Int)(s:List O):R:=cT (rr af8 [(vO i1 o2),(vI a3)] s) (fun v4 s5=>aT v4 fun c6=>aC c6 fun v7 r8=>aC r8 fun v9 r10=>aI v9 fun n11=>aN r10 (bif (n11 !=z0) then retR [(vI 0),(vI n11)] s5 else aO v7 fun i12 o13=>rd1 s5 i12 (o13+4) fun v14=>aI v14 fun n15=>retR [(vI n15),(vI 0)] s5)) panK
theorem b_eq (Z:Env) i1 o2 a3 s:ah0 Z 16 [(vO i1 o2),(vI a3)] s=b Z.R Z.D i1 o2 a3 s:=by kernel_rfl
theorem b_of i1 o2 a3 s {o}(h:b RZ.R RZ.D i1 o2 a3 s=some o):RZ.R aq9 [(vO i1 o2),(vI a3)] s=some o:=ae0 ((b_eq RZ i1 o2 a3 s).trans h)
end ax6
namespace ar8
noncomputable def b (rr:Rec)(_dd:Option V->Rec)(i1 o2:Nat)(a3:Int)(a4:ByteArray)(v5:V)(s:List O):R:=cP (rr aS0 [(vS a4)] []) (fun v6=>aB v6 fun b7=>bif (!b7) then retR [(vI 1)] s else cT (rr af8 [(vO i1 o2),(vI a3)] s) (fun v8 s9=>aT v8 fun c10=>aC c10 fun v11 r12=>aC r12 fun v13 r14=>aI v13 fun n15=>aN r14 (bif (n15 !=z0) then retR [(vI n15)] s9 else aD5 rr v5 [v11] s9 (fun v16 s17=>aO v11 fun i18 o19=>rd1 s17 i18 (o19+4) fun v20=>aI v20 fun n21=>bif (n21 !=z1) then retR [(vI 9)] s17 else aO v16 fun i22 o23=>rd1 s17 i22 o23 fun v24=>aL 1 v24 fun m25 e26=>cS (rr ac2 [(vL m25 1 e26),(vS a4)] s17) (fun v27 s28=>aB v27 fun b29=>bif b29 then retR [(vI 6)] s28 else aO v16 fun i30 o31=>rd1 s28 i30 o31 fun v32=>aL 1 v32 fun _ e34=>bif (((e34).length:Int)==(20:Int)) then retR [(vI 4)] s28 else aO v16 fun i35 o36=>aO v16 fun i37 o38=>rdT s28 i37 o38 (fun v39=>aL 1 v39 fun m40 e41=>apK e41 [(vS a4)] 16 (ck (!m40) (wrO s28 i35 o36 [((vL true 1 (e41++[(vS a4)])),true)] fun s42=>retR [(vI 0)] s42))) (fun v39 s43=>aL 1 v39 fun m44 e45=>apK e45 [(vS a4)] 16 (wrO s43 i35 o36 [((vL (m44||!([(vS a4)]).isEmpty) 1 (e45++[(vS a4)])),true)] fun s46=>retR [(vI 0)] s46))) panK) panK)) panK) (fun p53=>panK p53 s)
theorem b_eq (Z:Env) i1 o2 a3 a4 v5 s:ah0 Z 26 [(vO i1 o2),(vI a3),(vS a4),v5] s=b Z.R Z.D i1 o2 a3 a4 v5 s:=by kernel_rfl
theorem b_of i1 o2 a3 a4 v5 s {o}(h:b RZ.R RZ.D i1 o2 a3 a4 v5 s=some o):RZ.R ap1 [(vO i1 o2),(vI a3),(vS a4),v5] s=some o:=ae0 ((b_eq RZ i1 o2 a3 a4 v5 s).trans h)
end ar8
namespace au9
noncomputable def b (_rr:Rec)(_dd:Option V->Rec)(i1 o2:Nat)(p3:V)(s:List O):R:=ck (V.good p3) ((ptrB 15 s (vO i1 o2) p3).bind fun b4=>retR [(vB b4)] s)
theorem b_eq (Z:Env) i1 o2 p3 s:ah0 Z 44 [(vO i1 o2),(vR [p3])] s=b Z.R Z.D i1 o2 p3 s:=by kernel_rfl
theorem b_of i1 o2 p3 s {o}(h:b RZ.R RZ.D i1 o2 p3 s=some o):RZ.R aZ2 [(vO i1 o2),(vR [p3])] s=some o:=ae0 ((b_eq RZ i1 o2 p3 s).trans h)
end au9
namespace aU7
noncomputable def b (rr:Rec)(_dd:Option V->Rec)(a1:Int)(m2:Bool)(l3:List V):R:=cP (rr at3 [(vI a1)] []) (fun v4=>aS v4 fun s5=>ck (Nat.ble (((⟨#[99,111,109,109,105,116,32]⟩:ByteArray)).size+(s5).size) 9223372036854775807) (ck (Nat.ble ((((⟨#[99,111,109,109,105,116,32]⟩:ByteArray)++s5)).size+((⟨#[32]⟩:ByteArray)).size) 9223372036854775807) (ck (ac0 [(vL m2 1 l3),(vS (⟨#[32]⟩:ByteArray))]) (cP (rr az5 [(vL m2 1 l3),(vS (⟨#[32]⟩:ByteArray))] []) (fun v6=>aS v6 fun s7=>ck (Nat.ble (((((⟨#[99,111,109,109,105,116,32]⟩:ByteArray)++s5)++(⟨#[32]⟩:ByteArray))).size+(s7).size) 9223372036854775807) (retR [(vS ((((⟨#[99,111,109,109,105,116,32]⟩:ByteArray)++s5)++(⟨#[32]⟩:ByteArray))++s7))] [])) (fun p8=>panK p8 []))))) (fun p9=>panK p9 [])
theorem b_eq (Z:Env) a1 m2 l3:ah0 Z 61 [(vI a1),(vL m2 1 l3)] []=b Z.R Z.D a1 m2 l3:=by kernel_rfl
theorem b_of a1 m2 l3 {o}(h:b RZ.R RZ.D a1 m2 l3=some o):RZ.R aN0 [(vI a1),(vL m2 1 l3)] []=some o:=ae0 ((b_eq RZ a1 m2 l3).trans h)
end aU7
end Go.Proofs.YtnpjififnhjbbaaDoor.E
