/- It is proved of functions that TxnQueue reaches what their evaluation is, in plain words. No condition. -/
import Derived.Test.YtnpjififnhjbbaaDoorLH
set_option maxRecDepth 100000
set_option maxHeartbeats 40000
namespace Go.Proofs.YtnpjififnhjbbaaDoor.E
open Go
namespace aw2
noncomputable def b (rr:Rec)(_dd:Option V->Rec)(i1 o2:Nat)(a3:Int)(a4:ByteArray)(s:List O):R:=cS (rr ap1 [(vO i1 o2),(vI a3),(vS a4),(V.func (.func 27) [] [])] s) (fun v5 s6=>aI v5 fun n7=>retR [(vI n7)] s6) panK
theorem b_eq (Z:Env) i1 o2 a3 a4 s:ah0 Z 9 [(vO i1 o2),(vI a3),(vS a4)] s=b Z.R Z.D i1 o2 a3 a4 s:=by kernel_rfl
theorem b_of i1 o2 a3 a4 s {o}(h:b RZ.R RZ.D i1 o2 a3 a4 s=some o):RZ.R ae8 [(vO i1 o2),(vI a3),(vS a4)] s=some o:=ae0 ((b_eq RZ i1 o2 a3 a4 s).trans h)
end aw2
namespace aB5
noncomputable def b (rr:Rec)(_dd:Option V->Rec)(i1 o2:Nat)(s:List O):R:=rd1 s i1 (o2+4) fun v3=>ck (([v3]).all ad2) (cS (rr ac3 [v3] s) (fun v4 s5=>(frzV s5 v4).bind fun q6=>retK [q6.1] q6.2) panK)
theorem b_eq (Z:Env) i1 o2 s:ah0 Z 20 [(vO i1 o2)] s=b Z.R Z.D i1 o2 s:=by kernel_rfl
theorem b_of i1 o2 s {o}(h:b RZ.R RZ.D i1 o2 s=some o):RZ.R aj6 [(vO i1 o2)] s=some o:=ae0 ((b_eq RZ i1 o2 s).trans h)
end aB5
namespace ak4
end ak4
namespace aE2
noncomputable def b (_rr:Rec)(_dd:Option V->Rec)(i1 o2:Nat)(s:List O):R:=retR [(vO i1 ((o2+0)+0))] s
theorem b_eq (Z:Env) i1 o2 s:ah0 Z 27 [(vO i1 o2)] s=b Z.R Z.D i1 o2 s:=by kernel_rfl
theorem b_of i1 o2 s {o}(h:b RZ.R RZ.D i1 o2 s=some o):RZ.R aZ3 [(vO i1 o2)] s=some o:=ae0 ((b_eq RZ i1 o2 s).trans h)
end aE2
namespace ac8
def L0P :List Nat:=[0,1,1,1]
def L0F (i1 o2:Nat)(m3:Bool)(e4:List V)(n5 n6:Int)(s7:List O):St:=⟨mkT 48 [(1,(vO i1 o2),.no),(16,(vL m3 1 e4),.no),(17,(vI n5),.no),(18,(vI n6),.no)],mkA 0 [],0,[],s7,[]⟩
noncomputable def L0 (Z:Env):=fun i1 o2 m3 e4 n5 n6 s7=>Z.X 32 .body L0P (L0F i1 o2 m3 e4 n5 n6 s7)
def J1P :List Nat:=[0,1,0,0,1,1,0,0,1,1,1]
def J1F (i1 o2:Nat)(s3:ByteArray)(m4:Bool)(e5:List V)(n6 n7:Int)(b8:Bool)(s9:List O):St:=⟨mkT 48 [(1,(vO i1 o2),.no),(5,(vS s3),.no),(16,(vL m4 1 e5),.no),(17,(vI n6),.no),(18,(vI n7),.no),(35,(vB b8),.no)],mkA 0 [],0,[],s9,[]⟩
noncomputable def J1 (Z:Env):=fun i1 o2 s3 m4 e5 n6 n7 b8 s9=>Z.X 32 .body J1P (J1F i1 o2 s3 m4 e5 n6 n7 b8 s9)
def J2P :List Nat:=[1,1,0,0,1,1,0,0,1,1,1]
def J2F (i1 o2:Nat)(m3:Bool)(e4:List V)(n5 n6:Int)(s7:List O):St:=⟨mkT 48 [(1,(vO i1 o2),.no),(16,(vL m3 1 e4),.no),(17,(vI n5),.no),(18,(vI n6),.no)],mkA 0 [],0,[],s7,[]⟩
noncomputable def J2 (Z:Env):=fun i1 o2 m3 e4 n5 n6 s7=>Z.X 32 .body J2P (J2F i1 o2 m3 e4 n5 n6 s7)
noncomputable def b (_rr:Rec)(_dd:Option V->Rec)(jL0:Nat->Nat->Bool->List V->Int->Int->List O->R)(_i1 _o2 i3 o4:Nat)(s:List O):R:=wrO s i3 (o4+4) [((vI 5),false)] fun s5=>wrO s5 i3 (o4+9) [((vL false 0 []),true)] fun s6=>rd1 s6 i3 ((o4+0)+0) fun v7=>aL 1 v7 fun m8 e9=>jL0 (i3) (o4) (m8) (e9) (((e9).length:Int)) (z0) (s6)
theorem b_eq (Z:Env) i1 o2 i3 o4 s:ah0 Z 32 [(vO i1 o2),(vO i3 o4)] s=b Z.R Z.D (L0 Z) i1 o2 i3 o4 s:=by kernel_rfl
noncomputable def L0b (rr:Rec)(_dd:Option V->Rec)(jJ1:Nat->Nat->ByteArray->Bool->List V->Int->Int->Bool->List O->R)(i1 o2:Nat)(m3:Bool)(e4:List V)(n5 n6:Int)(s7:List O):R:=bif (decide (n6<n5)) then idxK e4 n6 fun v8=>aC (V.cells v8) fun v9 r10=>aS v9 fun s11=>aN r10 (rd1 s7 i1 (o2+10) fun v12=>aL 1 v12 fun m13 e14=>cS (rr ac2 [(vL m13 1 e14),(vS s11)] s7) (fun v15 s16=>aB v15 fun b17=>bif b17 then jJ1 (i1) (o2) (s11) (m3) (e4) (n5) (n6) (true) (s16) else rd1 s16 i1 (o2+11) fun v18=>ck (([v18,(vS s11)]).all ad2) (cS (rr ac2 [v18,(vS s11)] s16) (fun v19 s20=>aB v19 fun b21=>jJ1 (i1) (o2) (s11) (m3) (e4) (n5) (n6) (b21) (s20)) panK)) panK) else retR [] s7
theorem ah2 (Z:Env) i1 o2 m3 e4 n5 n6 s7:aj9 Z 32 .body L0P (L0F i1 o2 m3 e4 n5 n6 s7)=L0b Z.R Z.D (J1 Z) i1 o2 m3 e4 n5 n6 s7:=by kernel_rfl
noncomputable def J1b (_rr:Rec)(_dd:Option V->Rec)(jJ2:Nat->Nat->Bool->List V->Int->Int->List O->R)(i1 o2:Nat)(s3:ByteArray)(m4:Bool)(e5:List V)(n6 n7:Int)(b8:Bool)(s9:List O):R:=bif b8 then rdT s9 i1 (o2+9) (fun v10=>aL 2 v10 fun m11 e12=>apK e12 [(vA [(vI 4),(vS s3)])] 24 (ck (!m11) (wrO s9 i1 (o2+9) [((vL true 2 (e12++[(vA [(vI 4),(vS s3)])])),true)] fun s13=>jJ2 (i1) (o2) (m4) (e5) (n6) (n7) (s13)))) (fun v10 s14=>aL 2 v10 fun m15 e16=>apK e16 [(vA [(vI 4),(vS s3)])] 24 (wrO s14 i1 (o2+9) [((vL (m15||!([(vA [(vI 4),(vS s3)])]).isEmpty) 2 (e16++[(vA [(vI 4),(vS s3)])])),true)] fun s17=>jJ2 (i1) (o2) (m4) (e5) (n6) (n7) (s17))) else jJ2 (i1) (o2) (m4) (e5) (n6) (n7) (s9)
theorem ah3 (Z:Env) i1 o2 s3 m4 e5 n6 n7 b8 s9:ad6 Z 32 .body J1P (J1F i1 o2 s3 m4 e5 n6 n7 b8 s9)=J1b Z.R Z.D (J2 Z) i1 o2 s3 m4 e5 n6 n7 b8 s9:=by kernel_rfl
noncomputable def J2b (_rr:Rec)(_dd:Option V->Rec)(jL0:Nat->Nat->Bool->List V->Int->Int->List O->R)(i1 o2:Nat)(m3:Bool)(e4:List V)(n5 n6:Int)(s7:List O):R:=jL0 (i1) (o2) (m3) (e4) (n5) ((w6 (n6+z1))) (s7)
theorem am0 (Z:Env) i1 o2 m3 e4 n5 n6 s7:ad6 Z 32 .body J2P (J2F i1 o2 m3 e4 n5 n6 s7)=J2b Z.R Z.D (L0 Z) i1 o2 m3 e4 n5 n6 s7:=by kernel_rfl
theorem b_of i1 o2 i3 o4 s {o}(h:b RZ.R RZ.D (L0 RZ) i1 o2 i3 o4 s=some o):RZ.R ae9 [(vO i1 o2),(vO i3 o4)] s=some o:=ae0 ((b_eq RZ i1 o2 i3 o4 s).trans h)
theorem ag4 i1 o2 m3 e4 n5 n6 s7 {o}(h:L0b RZ.R RZ.D (J1 RZ) i1 o2 m3 e4 n5 n6 s7=some o):L0 RZ i1 o2 m3 e4 n5 n6 s7=some o:=af7 ((ah2 RZ i1 o2 m3 e4 n5 n6 s7).trans h)
theorem ak6 i1 o2 s3 m4 e5 n6 n7 b8 s9 {o}(h:J1b RZ.R RZ.D (J2 RZ) i1 o2 s3 m4 e5 n6 n7 b8 s9=some o):J1 RZ i1 o2 s3 m4 e5 n6 n7 b8 s9=some o:=ac1 (by kernel_rfl) ((ah3 RZ i1 o2 s3 m4 e5 n6 n7 b8 s9).trans h)
theorem ar1 i1 o2 m3 e4 n5 n6 s7 {o}(h:J2b RZ.R RZ.D (L0 RZ) i1 o2 m3 e4 n5 n6 s7=some o):J2 RZ i1 o2 m3 e4 n5 n6 s7=some o:=ac1 (by kernel_rfl) ((am0 RZ i1 o2 m3 e4 n5 n6 s7).trans h)
end ac8
namespace ak5
def J0P :List Nat:=[1,0,1,1,1]
def J0F (i1 o2:Nat)(s3:List O):St:=⟨mkT 54 [(0,(vO i1 o2),.no)],mkA 0 [],0,[],s3,[]⟩
noncomputable def J0 (Z:Env):=fun i1 o2 s3=>Z.X 36 .body J0P (J0F i1 o2 s3)
noncomputable def b (_rr:Rec)(_dd:Option V->Rec)(jJ0:Nat->Nat->List O->R)(i1 o2:Nat)(a3:Int)(a4:ByteArray)(s:List O):R:=rd1 s i1 (o2+10) fun v5=>aB v5 fun b6=>bif b6 then retR [(vI 0)] s else as4 [(rdT s i1 ((o2+0)+0) (fun v7=>aL 3 v7 fun m8 e9=>rd1 s i1 (o2+8) fun v10=>aI v10 fun n11=>apK e9 [(vA [(vI n11),(vI a3),(vS a4)])] 32 (ck (!m8) (wrO s i1 ((o2+0)+0) [((vL true 3 (e9++[(vA [(vI n11),(vI a3),(vS a4)])])),true)] fun s12=>rd1 s12 i1 (o2+9) fun v13=>aL 1 v13 fun _ e15=>bif (((e15).length:Int)==z0) then wrO s12 i1 (o2+10) [((vB true),false)] fun s16=>retR [(vI 0)] s16 else jJ0 (i1) (o2) (s12)))) (fun v7 s17=>aL 3 v7 fun m18 e19=>rd1 s17 i1 (o2+8) fun v20=>aI v20 fun n21=>apK e19 [(vA [(vI n21),(vI a3),(vS a4)])] 32 (wrO s17 i1 ((o2+0)+0) [((vL (m18||!([(vA [(vI n21),(vI a3),(vS a4)])]).isEmpty) 3 (e19++[(vA [(vI n21),(vI a3),(vS a4)])])),true)] fun s22=>rd1 s22 i1 (o2+9) fun v23=>aL 1 v23 fun _ e25=>bif (((e25).length:Int)==z0) then wrO s22 i1 (o2+10) [((vB true),false)] fun s26=>retR [(vI 0)] s26 else jJ0 (i1) (o2) (s22)))),(rd1 s i1 (o2+8) fun v27=>aI v27 fun n28=>rdT s i1 ((o2+0)+0) (fun v29=>aL 3 v29 fun m30 e31=>apK e31 [(vA [(vI n28),(vI a3),(vS a4)])] 32 (ck (!m30) (wrO s i1 ((o2+0)+0) [((vL true 3 (e31++[(vA [(vI n28),(vI a3),(vS a4)])])),true)] fun s32=>rd1 s32 i1 (o2+9) fun v33=>aL 1 v33 fun _ e35=>bif (((e35).length:Int)==z0) then wrO s32 i1 (o2+10) [((vB true),false)] fun s36=>retR [(vI 0)] s36 else jJ0 (i1) (o2) (s32)))) (fun v29 s37=>aL 3 v29 fun m38 e39=>apK e39 [(vA [(vI n28),(vI a3),(vS a4)])] 32 (wrO s37 i1 ((o2+0)+0) [((vL (m38||!([(vA [(vI n28),(vI a3),(vS a4)])]).isEmpty) 3 (e39++[(vA [(vI n28),(vI a3),(vS a4)])])),true)] fun s40=>rd1 s40 i1 (o2+9) fun v41=>aL 1 v41 fun _ e43=>bif (((e43).length:Int)==z0) then wrO s40 i1 (o2+10) [((vB true),false)] fun s44=>retR [(vI 0)] s44 else jJ0 (i1) (o2) (s40))))]
theorem b_eq (Z:Env) i1 o2 a3 a4 s:ah0 Z 36 [(vO i1 o2),(vI a3),(vS a4)] s=b Z.R Z.D (J0 Z) i1 o2 a3 a4 s:=by kernel_rfl
noncomputable def J0b (_rr:Rec)(_dd:Option V->Rec)(i1 o2:Nat)(s3:List O):R:=rd1 s3 i1 (o2+9) fun v4=>aL 1 v4 fun _ e6=>idxK e6 z0 fun v7=>aC (V.cells v7) fun v8 r9=>aI v8 fun n10=>aN r9 (rd1 s3 i1 (o2+9) fun v11=>aL 1 v11 fun m12 e13=>ck (decide (0<=z1)&&(decide (z1<=((e13).length:Int))&&decide (((e13).length:Int)<=((e13).length:Int)))) (wrO s3 i1 (o2+9) [((vL m12 1 (((e13).take (((e13).length:Int)).toNat).drop (z1).toNat)),(nilB (vL m12 1 (((e13).take (((e13).length:Int)).toNat).drop (z1).toNat))))] fun s14=>retR [(vI n10)] s14))
theorem ak2 (Z:Env) i1 o2 s3:ad6 Z 36 .body J0P (J0F i1 o2 s3)=J0b Z.R Z.D i1 o2 s3:=by kernel_rfl
theorem b_of i1 o2 a3 a4 s {o}(h:b RZ.R RZ.D (J0 RZ) i1 o2 a3 a4 s=some o):RZ.R ad1 [(vO i1 o2),(vI a3),(vS a4)] s=some o:=ae0 ((b_eq RZ i1 o2 a3 a4 s).trans h)
theorem am9 i1 o2 s3 {o}(h:J0b RZ.R RZ.D i1 o2 s3=some o):J0 RZ i1 o2 s3=some o:=ac1 (by kernel_rfl) ((ak2 RZ i1 o2 s3).trans h)
end ak5
namespace aa7
def L0P :List Nat:=[0,1,0,0,1,0,1]
def L0F (i1 o2:Nat)(m3:Bool)(e4:List V)(n5 n6:Int)(s7:List O):St:=⟨mkT 121 [(1,(vO i1 o2),.no),(19,(vL m3 1 e4),.no),(20,(vI n5),.no),(21,(vI n6),.no)],mkA 0 [],0,[],s7,[]⟩
noncomputable def L0 (Z:Env):=fun i1 o2 m3 e4 n5 n6 s7=>Z.X 55 .body L0P (L0F i1 o2 m3 e4 n5 n6 s7)
def J1P :List Nat:=[1,1,0,0,1,1,0,0,1,0,0,1,0,1]
def J1F (i1 o2:Nat)(m3:Bool)(e4:List V)(n5 n6:Int)(s7:List O):St:=⟨mkT 121 [(1,(vO i1 o2),.no),(19,(vL m3 1 e4),.no),(20,(vI n5),.no),(21,(vI n6),.no)],mkA 0 [],0,[],s7,[]⟩
noncomputable def J1 (Z:Env):=fun i1 o2 m3 e4 n5 n6 s7=>Z.X 55 .body J1P (J1F i1 o2 m3 e4 n5 n6 s7)
def J2P :List Nat:=[0,0,1,1,1,1]
def J2F (i1 o2 i3 o4:Nat)(b5:Bool)(s6:List O):St:=⟨mkT 121 [(0,(vO i1 o2),.no),(1,(vO i3 o4),.no),(78,(vB b5),.no)],mkA 0 [],0,[],s6,[]⟩
noncomputable def J2 (Z:Env):=fun i1 o2 i3 o4 b5 s6=>Z.X 55 .body J2P (J2F i1 o2 i3 o4 b5 s6)
def J3P :List Nat:=[1,0,1,1,1,1]
def J3F (i1 o2:Nat)(s3:List O):St:=⟨mkT 121 [(1,(vO i1 o2),.no)],mkA 0 [],0,[],s3,[]⟩
noncomputable def J3 (Z:Env):=fun i1 o2 s3=>Z.X 55 .body J3P (J3F i1 o2 s3)
def L4P :List Nat:=[0,1,0,1,0,1,1,1,1,1]
def L4F (i1 o2:Nat)(m3:Bool)(e4:List V)(n5 n6:Int)(s7:List O):St:=⟨mkT 121 [(1,(vO i1 o2),.no),(103,(vL m3 1 e4),.no),(104,(vI n5),.no),(105,(vI n6),.no)],mkA 0 [],0,[],s7,[]⟩
noncomputable def L4 (Z:Env):=fun i1 o2 m3 e4 n5 n6 s7=>Z.X 55 .body L4P (L4F i1 o2 m3 e4 n5 n6 s7)
def J5P :List Nat:=[0,1,1,0,0,1,0,1,0,1,1,1,1,1]
def J5F (i1 o2:Nat)(m3:Bool)(e4:List V)(n5 n6:Int)(s7:List O):St:=⟨mkT 121 [(1,(vO i1 o2),.no),(103,(vL m3 1 e4),.no),(104,(vI n5),.no),(105,(vI n6),.no)],mkA 0 [],0,[],s7,[]⟩
noncomputable def J5 (Z:Env):=fun i1 o2 m3 e4 n5 n6 s7=>Z.X 55 .body J5P (J5F i1 o2 m3 e4 n5 n6 s7)
def J6P :List Nat:=[1,0,1,1,1,1,1]
def J6F (s1:List O):St:=⟨mkT 121 [],mkA 0 [],0,[],s1,[]⟩
noncomputable def J6 (Z:Env):=fun s1=>Z.X 55 .body J6P (J6F s1)
noncomputable def b (_rr:Rec)(_dd:Option V->Rec)(jL0:Nat->Nat->Bool->List V->Int->Int->List O->R)(jJ2:Nat->Nat->Nat->Nat->Bool->List O->R)(i1 o2 i3 o4:Nat)(s:List O):R:=rd1 s i3 (o4+12) fun v5=>aL 1 v5 fun _ e7=>bif (decide (((e7).length:Int)>0)) then rd1 s i3 ((o4+0)+0) fun v8=>aL 1 v8 fun m9 e10=>jL0 (i3) (o4) (m9) (e10) (((e10).length:Int)) (z0) (s) else rd1 s i3 (o4+4) fun v11=>aI v11 fun n12=>wrO s i3 ((o4+5)+0) [((vB (n12==(4:Int))),false)] fun s13=>mapK (s13++[O.map [] 0]) (s13).length fun e14 c15=>putK (vB true) (vI 6) e14 fun e16=>mapK (((s13++[O.map [] 0])).set (s13).length (O.map e16 (if (e16).length=(e14).length then c15 else c15+1))) (s13).length fun e17 c18=>putK (vB false) (vI 7) e17 fun e19=>rd1 (((((s13++[O.map [] 0])).set (s13).length (O.map e16 (if (e16).length=(e14).length then c15 else c15+1)))).set (s13).length (O.map e19 (if (e19).length=(e17).length then c18 else c18+1))) i3 ((o4+5)+0) fun v20=>aB v20 fun b21=>mapK (((((s13++[O.map [] 0])).set (s13).length (O.map e16 (if (e16).length=(e14).length then c15 else c15+1)))).set (s13).length (O.map e19 (if (e19).length=(e17).length then c18 else c18+1))) (s13).length fun e22 _=>ar6 (vB b21) e22 fun r24=>aI ((r24).getD (vI 0)) fun n25=>wrO (((((s13++[O.map [] 0])).set (s13).length (O.map e16 (if (e16).length=(e14).length then c15 else c15+1)))).set (s13).length (O.map e19 (if (e19).length=(e17).length then c18 else c18+1))) i3 (o4+4) [((vI n25),false)] fun s26=>rd1 s26 i3 (o4+14) fun v27=>aB v27 fun b28=>bif b28 then rd1 s26 i3 ((o4+5)+3) fun v29=>aL 1 v29 fun _ e31=>jJ2 (i1) (o2) (i3) (o4) ((((e31).length:Int)==z0)) (s26) else jJ2 (i1) (o2) (i3) (o4) (false) (s26)
theorem b_eq (Z:Env) i1 o2 i3 o4 s:ah0 Z 55 [(vO i1 o2),(vO i3 o4)] s=b Z.R Z.D (L0 Z) (J2 Z) i1 o2 i3 o4 s:=by kernel_rfl
noncomputable def L0b (rr:Rec)(_dd:Option V->Rec)(jJ1:Nat->Nat->Bool->List V->Int->Int->List O->R)(i1 o2:Nat)(m3:Bool)(e4:List V)(n5 n6:Int)(s7:List O):R:=bif (decide (n6<n5)) then idxK e4 n6 fun v8=>aC (V.cells v8) fun v9 r10=>aS v9 fun s11=>aN r10 (rd1 s7 i1 (o2+12) fun v12=>aL 1 v12 fun m13 e14=>cS (rr ac2 [(vL m13 1 e14),(vS s11)] s7) (fun v15 s16=>aB v15 fun b17=>bif b17 then rdT s16 i1 (o2+9) (fun v18=>aL 2 v18 fun m19 e20=>apK e20 [(vA [(vI 6),(vS s11)])] 24 (ck (!m19) (wrO s16 i1 (o2+9) [((vL true 2 (e20++[(vA [(vI 6),(vS s11)])])),true)] fun s21=>jJ1 (i1) (o2) (m3) (e4) (n5) (n6) (s21)))) (fun v18 s22=>aL 2 v18 fun m23 e24=>apK e24 [(vA [(vI 6),(vS s11)])] 24 (wrO s22 i1 (o2+9) [((vL (m23||!([(vA [(vI 6),(vS s11)])]).isEmpty) 2 (e24++[(vA [(vI 6),(vS s11)])])),true)] fun s25=>jJ1 (i1) (o2) (m3) (e4) (n5) (n6) (s25))) else jJ1 (i1) (o2) (m3) (e4) (n5) (n6) (s16)) panK) else wrO s7 i1 (o2+12) [((vL false 0 []),true)] fun s28=>retR [(vB true)] s28
theorem ah2 (Z:Env) i1 o2 m3 e4 n5 n6 s7:aj9 Z 55 .body L0P (L0F i1 o2 m3 e4 n5 n6 s7)=L0b Z.R Z.D (J1 Z) i1 o2 m3 e4 n5 n6 s7:=by kernel_rfl
noncomputable def J1b (_rr:Rec)(_dd:Option V->Rec)(jL0:Nat->Nat->Bool->List V->Int->Int->List O->R)(i1 o2:Nat)(m3:Bool)(e4:List V)(n5 n6:Int)(s7:List O):R:=jL0 (i1) (o2) (m3) (e4) (n5) ((w6 (n6+z1))) (s7)
theorem ah3 (Z:Env) i1 o2 m3 e4 n5 n6 s7:ad6 Z 55 .body J1P (J1F i1 o2 m3 e4 n5 n6 s7)=J1b Z.R Z.D (L0 Z) i1 o2 m3 e4 n5 n6 s7:=by kernel_rfl
noncomputable def J2b (rr:Rec)(_dd:Option V->Rec)(jJ3:Nat->Nat->List O->R)(i1 o2 i3 o4:Nat)(b5:Bool)(s6:List O):R:=bif b5 then as4 [(rdT s6 i1 (o2+4) (fun v7=>aL 1 v7 fun m8 e9=>rd1 s6 i3 (o4+2) fun v10=>aI v10 fun n11=>cP (rr at3 [(vI n11)] []) (fun v12=>aS v12 fun s13=>ck (Nat.ble (((⟨#[101,110,100,32]⟩:ByteArray)).size+(s13).size) 9223372036854775807) (apK e9 [(vS ((⟨#[101,110,100,32]⟩:ByteArray)++s13))] 16 (ck (!m8) (wrO s6 i1 (o2+4) [((vL true 1 (e9++[(vS ((⟨#[101,110,100,32]⟩:ByteArray)++s13))])),true)] fun s14=>jJ3 (i3) (o4) (s14))))) (fun _=>none)) (fun v7 s16=>aL 1 v7 fun m17 e18=>rd1 s16 i3 (o4+2) fun v19=>aI v19 fun n20=>cP (rr at3 [(vI n20)] []) (fun v21=>aS v21 fun s22=>ck (Nat.ble (((⟨#[101,110,100,32]⟩:ByteArray)).size+(s22).size) 9223372036854775807) (apK e18 [(vS ((⟨#[101,110,100,32]⟩:ByteArray)++s22))] 16 (wrO s16 i1 (o2+4) [((vL (m17||!([(vS ((⟨#[101,110,100,32]⟩:ByteArray)++s22))]).isEmpty) 1 (e18++[(vS ((⟨#[101,110,100,32]⟩:ByteArray)++s22))])),true)] fun s23=>jJ3 (i3) (o4) (s23)))) (fun _=>none))),(rd1 s6 i3 (o4+2) fun v25=>aI v25 fun n26=>cP (rr at3 [(vI n26)] []) (fun v27=>aS v27 fun s28=>ck (Nat.ble (((⟨#[101,110,100,32]⟩:ByteArray)).size+(s28).size) 9223372036854775807) (rdT s6 i1 (o2+4) (fun v29=>aL 1 v29 fun m30 e31=>apK e31 [(vS ((⟨#[101,110,100,32]⟩:ByteArray)++s28))] 16 (ck (!m30) (wrO s6 i1 (o2+4) [((vL true 1 (e31++[(vS ((⟨#[101,110,100,32]⟩:ByteArray)++s28))])),true)] fun s32=>jJ3 (i3) (o4) (s32)))) (fun v29 s33=>aL 1 v29 fun m34 e35=>apK e35 [(vS ((⟨#[101,110,100,32]⟩:ByteArray)++s28))] 16 (wrO s33 i1 (o2+4) [((vL (m34||!([(vS ((⟨#[101,110,100,32]⟩:ByteArray)++s28))]).isEmpty) 1 (e35++[(vS ((⟨#[101,110,100,32]⟩:ByteArray)++s28))])),true)] fun s36=>jJ3 (i3) (o4) (s36))))) (fun _=>none))] else jJ3 (i3) (o4) (s6)
theorem am0 (Z:Env) i1 o2 i3 o4 b5 s6:ad6 Z 55 .body J2P (J2F i1 o2 i3 o4 b5 s6)=J2b Z.R Z.D (J3 Z) i1 o2 i3 o4 b5 s6:=by kernel_rfl
noncomputable def J3b (_rr:Rec)(_dd:Option V->Rec)(jL4:Nat->Nat->Bool->List V->Int->Int->List O->R)(jJ6:List O->R)(i1 o2:Nat)(s3:List O):R:=rd1 s3 i1 (o2+3) fun v4=>aI v4 fun n5=>bif (n5==z0) then rd1 s3 i1 ((o2+0)+1) fun v6=>aL 1 v6 fun m7 e8=>jL4 (i1) (o2) (m7) (e8) (((e8).length:Int)) (z0) (s3) else jJ6 (s3)
theorem ax0 (Z:Env) i1 o2 s3:ad6 Z 55 .body J3P (J3F i1 o2 s3)=J3b Z.R Z.D (L4 Z) (J6 Z) i1 o2 s3:=by kernel_rfl
noncomputable def L4b (_rr:Rec)(_dd:Option V->Rec)(jJ5:Nat->Nat->Bool->List V->Int->Int->List O->R)(jJ6:List O->R)(i1 o2:Nat)(m3:Bool)(e4:List V)(n5 n6:Int)(s7:List O):R:=bif (decide (n6<n5)) then idxK e4 n6 fun v8=>aC (V.cells v8) fun v9 r10=>aS v9 fun s11=>aN r10 (rdT s7 i1 (o2+9) (fun v12=>aL 2 v12 fun m13 e14=>apK e14 [(vA [(vI 7),(vS s11)])] 24 (ck (!m13) (wrO s7 i1 (o2+9) [((vL true 2 (e14++[(vA [(vI 7),(vS s11)])])),true)] fun s15=>jJ5 (i1) (o2) (m3) (e4) (n5) (n6) (s15)))) (fun v12 s16=>aL 2 v12 fun m17 e18=>apK e18 [(vA [(vI 7),(vS s11)])] 24 (wrO s16 i1 (o2+9) [((vL (m17||!([(vA [(vI 7),(vS s11)])]).isEmpty) 2 (e18++[(vA [(vI 7),(vS s11)])])),true)] fun s19=>jJ5 (i1) (o2) (m3) (e4) (n5) (n6) (s19)))) else jJ6 (s7)
theorem L4b_eq (Z:Env) i1 o2 m3 e4 n5 n6 s7:aj9 Z 55 .body L4P (L4F i1 o2 m3 e4 n5 n6 s7)=L4b Z.R Z.D (J5 Z) (J6 Z) i1 o2 m3 e4 n5 n6 s7:=by kernel_rfl
noncomputable def J5b (_rr:Rec)(_dd:Option V->Rec)(jL4:Nat->Nat->Bool->List V->Int->Int->List O->R)(i1 o2:Nat)(m3:Bool)(e4:List V)(n5 n6:Int)(s7:List O):R:=jL4 (i1) (o2) (m3) (e4) (n5) ((w6 (n6+z1))) (s7)
theorem aN3 (Z:Env) i1 o2 m3 e4 n5 n6 s7:ad6 Z 55 .body J5P (J5F i1 o2 m3 e4 n5 n6 s7)=J5b Z.R Z.D (L4 Z) i1 o2 m3 e4 n5 n6 s7:=by kernel_rfl
noncomputable def J6b (_rr:Rec)(_dd:Option V->Rec)(s1:List O):R:=retR [(vB true)] s1
theorem aW3 (Z:Env) s1:ad6 Z 55 .body J6P (J6F s1)=J6b Z.R Z.D s1:=by kernel_rfl
theorem b_of i1 o2 i3 o4 s {o}(h:b RZ.R RZ.D (L0 RZ) (J2 RZ) i1 o2 i3 o4 s=some o):RZ.R aF2 [(vO i1 o2),(vO i3 o4)] s=some o:=ae0 ((b_eq RZ i1 o2 i3 o4 s).trans h)
theorem ag4 i1 o2 m3 e4 n5 n6 s7 {o}(h:L0b RZ.R RZ.D (J1 RZ) i1 o2 m3 e4 n5 n6 s7=some o):L0 RZ i1 o2 m3 e4 n5 n6 s7=some o:=af7 ((ah2 RZ i1 o2 m3 e4 n5 n6 s7).trans h)
theorem ak6 i1 o2 m3 e4 n5 n6 s7 {o}(h:J1b RZ.R RZ.D (L0 RZ) i1 o2 m3 e4 n5 n6 s7=some o):J1 RZ i1 o2 m3 e4 n5 n6 s7=some o:=ac1 (by kernel_rfl) ((ah3 RZ i1 o2 m3 e4 n5 n6 s7).trans h)
theorem ar1 i1 o2 i3 o4 b5 s6 {o}(h:J2b RZ.R RZ.D (J3 RZ) i1 o2 i3 o4 b5 s6=some o):J2 RZ i1 o2 i3 o4 b5 s6=some o:=ac1 (by kernel_rfl) ((am0 RZ i1 o2 i3 o4 b5 s6).trans h)
theorem aB4 i1 o2 s3 {o}(h:J3b RZ.R RZ.D (L4 RZ) (J6 RZ) i1 o2 s3=some o):J3 RZ i1 o2 s3=some o:=ac1 (by kernel_rfl) ((ax0 RZ i1 o2 s3).trans h)
theorem L4_of i1 o2 m3 e4 n5 n6 s7 {o}(h:L4b RZ.R RZ.D (J5 RZ) (J6 RZ) i1 o2 m3 e4 n5 n6 s7=some o):L4 RZ i1 o2 m3 e4 n5 n6 s7=some o:=af7 ((L4b_eq RZ i1 o2 m3 e4 n5 n6 s7).trans h)
theorem aY9 i1 o2 m3 e4 n5 n6 s7 {o}(h:J5b RZ.R RZ.D (L4 RZ) i1 o2 m3 e4 n5 n6 s7=some o):J5 RZ i1 o2 m3 e4 n5 n6 s7=some o:=ac1 (by kernel_rfl) ((aN3 RZ i1 o2 m3 e4 n5 n6 s7).trans h)
theorem br7 s1 {o}(h:J6b RZ.R RZ.D s1=some o):J6 RZ s1=some o:=ac1 (by kernel_rfl) ((aW3 RZ s1).trans h)
end aa7
namespace af3
def J0P :List Nat:=[1,0,0,1,1,0,1]
def J0F (s1:List O):St:=⟨mkT 52 [],mkA 0 [],0,[],s1,[]⟩
noncomputable def J0 (Z:Env):=fun s1=>Z.X 59 .body J0P (J0F s1)
def J1P :List Nat:=[1,1,0,1]
def J1F (i1 o2:Nat)(n3:Int)(s4:ByteArray)(s5:List O):St:=⟨mkT 52 [(0,(vO i1 o2),.no),(3,(vR [(vI n3),(vS s4)]),.no)],mkA 0 [],0,[],s5,[]⟩
noncomputable def J1 (Z:Env):=fun i1 o2 n3 s4 s5=>Z.X 59 .body J1P (J1F i1 o2 n3 s4 s5)
noncomputable def b (rr:Rec)(_dd:Option V->Rec)(jJ0:List O->R)(jJ1:Nat->Nat->Int->ByteArray->List O->R)(i1 o2:Nat)(a3:Int)(a4:ByteArray)(s:List O):R:=rd1 s i1 (o2+13) fun v5=>aM2 v5 fun i6=>as4 [(mapK s i6 fun e7 _=>ar6 (vA [(vI a3),(vS a4)]) e7 fun r9=>aI ((r9).getD (vI 0)) fun n10=>mapK s i6 fun e11 c12=>ar6 (vA [(vI a3),(vS a4)]) e11 fun r13=>putK (vA [(vI a3),(vS a4)]) ((r13).getD (vI 0)) e11 fun e14=>posK (vA [(vI a3),(vS a4)]) e11 fun i15=>mapK ((s).set i6 (O.map e14 (if (e14).length=(e11).length then c12 else c12+1))) i6 fun e16 c17=>ck (decide (0<=((i15:Nat):Int))) (kvK e16 ((i15:Nat):Int) fun kv113=>rd1 ((((s).set i6 (O.map e14 (if (e14).length=(e11).length then c12 else c12+1)))).set i6 (O.map ((e16).set (((i15:Nat):Int)).toNat ((kv113).1,(vI (w6 (n10+z1))))) c17)) i1 (o2+13) fun v18=>aM2 v18 fun i19=>mapK ((((s).set i6 (O.map e14 (if (e14).length=(e11).length then c12 else c12+1)))).set i6 (O.map ((e16).set (((i15:Nat):Int)).toNat ((kv113).1,(vI (w6 (n10+z1))))) c17)) i19 fun e20 _=>ar6 (vA [(vI a3),(vS a4)]) e20 fun r22=>aI ((r22).getD (vI 0)) fun n23=>bif (decide (n23>=20)) then rd1 ((((s).set i6 (O.map e14 (if (e14).length=(e11).length then c12 else c12+1)))).set i6 (O.map ((e16).set (((i15:Nat):Int)).toNat ((kv113).1,(vI (w6 (n10+z1))))) c17)) i1 ((o2+5)+3) fun v24=>aL 1 v24 fun m25 e26=>cS (rr ac2 [(vL m25 1 e26),(vS a4)] ((((s).set i6 (O.map e14 (if (e14).length=(e11).length then c12 else c12+1)))).set i6 (O.map ((e16).set (((i15:Nat):Int)).toNat ((kv113).1,(vI (w6 (n10+z1))))) c17))) (fun v27 s28=>aB v27 fun b29=>bif (!b29) then rdT s28 i1 ((o2+5)+3) (fun v30=>aL 1 v30 fun m31 e32=>apK e32 [(vS a4)] 16 (ck (!m31) (wrO s28 i1 ((o2+5)+3) [((vL true 1 (e32++[(vS a4)])),true)] fun s33=>jJ0 (s33)))) (fun v30 s34=>aL 1 v30 fun m35 e36=>apK e36 [(vS a4)] 16 (wrO s34 i1 ((o2+5)+3) [((vL (m35||!([(vS a4)]).isEmpty) 1 (e36++[(vS a4)])),true)] fun s37=>jJ0 (s37))) else jJ0 (s28)) (fun _ _=>none) else jJ1 (i1) (o2) (a3) (a4) (((((s).set i6 (O.map e14 (if (e14).length=(e11).length then c12 else c12+1)))).set i6 (O.map ((e16).set (((i15:Nat):Int)).toNat ((kv113).1,(vI (w6 (n10+z1))))) c17))))),(mapK s i6 fun e40 c41=>ar6 (vA [(vI a3),(vS a4)]) e40 fun r42=>putK (vA [(vI a3),(vS a4)]) ((r42).getD (vI 0)) e40 fun e43=>posK (vA [(vI a3),(vS a4)]) e40 fun i44=>mapK ((s).set i6 (O.map e43 (if (e43).length=(e40).length then c41 else c41+1))) i6 fun e45 _=>ar6 (vA [(vI a3),(vS a4)]) e45 fun r47=>aI ((r47).getD (vI 0)) fun n48=>mapK ((s).set i6 (O.map e43 (if (e43).length=(e40).length then c41 else c41+1))) i6 fun e49 c50=>ck (decide (0<=((i44:Nat):Int))) (kvK e49 ((i44:Nat):Int) fun kv161=>rd1 ((((s).set i6 (O.map e43 (if (e43).length=(e40).length then c41 else c41+1)))).set i6 (O.map ((e49).set (((i44:Nat):Int)).toNat ((kv161).1,(vI (w6 (n48+z1))))) c50)) i1 (o2+13) fun v51=>aM2 v51 fun i52=>mapK ((((s).set i6 (O.map e43 (if (e43).length=(e40).length then c41 else c41+1)))).set i6 (O.map ((e49).set (((i44:Nat):Int)).toNat ((kv161).1,(vI (w6 (n48+z1))))) c50)) i52 fun e53 _=>ar6 (vA [(vI a3),(vS a4)]) e53 fun r55=>aI ((r55).getD (vI 0)) fun n56=>bif (decide (n56>=20)) then rd1 ((((s).set i6 (O.map e43 (if (e43).length=(e40).length then c41 else c41+1)))).set i6 (O.map ((e49).set (((i44:Nat):Int)).toNat ((kv161).1,(vI (w6 (n48+z1))))) c50)) i1 ((o2+5)+3) fun v57=>aL 1 v57 fun m58 e59=>cS (rr ac2 [(vL m58 1 e59),(vS a4)] ((((s).set i6 (O.map e43 (if (e43).length=(e40).length then c41 else c41+1)))).set i6 (O.map ((e49).set (((i44:Nat):Int)).toNat ((kv161).1,(vI (w6 (n48+z1))))) c50))) (fun v60 s61=>aB v60 fun b62=>bif (!b62) then rdT s61 i1 ((o2+5)+3) (fun v63=>aL 1 v63 fun m64 e65=>apK e65 [(vS a4)] 16 (ck (!m64) (wrO s61 i1 ((o2+5)+3) [((vL true 1 (e65++[(vS a4)])),true)] fun s66=>jJ0 (s66)))) (fun v63 s67=>aL 1 v63 fun m68 e69=>apK e69 [(vS a4)] 16 (wrO s67 i1 ((o2+5)+3) [((vL (m68||!([(vS a4)]).isEmpty) 1 (e69++[(vS a4)])),true)] fun s70=>jJ0 (s70))) else jJ0 (s61)) (fun _ _=>none) else jJ1 (i1) (o2) (a3) (a4) (((((s).set i6 (O.map e43 (if (e43).length=(e40).length then c41 else c41+1)))).set i6 (O.map ((e49).set (((i44:Nat):Int)).toNat ((kv161).1,(vI (w6 (n48+z1))))) c50)))))]
theorem b_eq (Z:Env) i1 o2 a3 a4 s:ah0 Z 59 [(vO i1 o2),(vA [(vI a3),(vS a4)])] s=b Z.R Z.D (J0 Z) (J1 Z) i1 o2 a3 a4 s:=by kernel_rfl
noncomputable def J0b (_rr:Rec)(_dd:Option V->Rec)(s1:List O):R:=retR [] s1
theorem ak2 (Z:Env) s1:ad6 Z 59 .body J0P (J0F s1)=J0b Z.R Z.D s1:=by kernel_rfl
noncomputable def J1b (_rr:Rec)(_dd:Option V->Rec)(i1 o2:Nat)(n3:Int)(s4:ByteArray)(s5:List O):R:=rdT s5 i1 (o2+9) (fun v6=>aL 2 v6 fun m7 e8=>apK e8 [(vA [(vI n3),(vS s4)])] 24 (ck (!m7) (wrO s5 i1 (o2+9) [((vL true 2 (e8++[(vA [(vI n3),(vS s4)])])),true)] fun s9=>retR [] s9))) (fun v6 s10=>aL 2 v6 fun m11 e12=>apK e12 [(vA [(vI n3),(vS s4)])] 24 (wrO s10 i1 (o2+9) [((vL (m11||!([(vA [(vI n3),(vS s4)])]).isEmpty) 2 (e12++[(vA [(vI n3),(vS s4)])])),true)] fun s13=>retR [] s13))
theorem ah3 (Z:Env) i1 o2 n3 s4 s5:ad6 Z 59 .body J1P (J1F i1 o2 n3 s4 s5)=J1b Z.R Z.D i1 o2 n3 s4 s5:=by kernel_rfl
theorem b_of i1 o2 a3 a4 s {o}(h:b RZ.R RZ.D (J0 RZ) (J1 RZ) i1 o2 a3 a4 s=some o):RZ.R ak3 [(vO i1 o2),(vA [(vI a3),(vS a4)])] s=some o:=ae0 ((b_eq RZ i1 o2 a3 a4 s).trans h)
theorem am9 s1 {o}(h:J0b RZ.R RZ.D s1=some o):J0 RZ s1=some o:=ac1 (by kernel_rfl) ((ak2 RZ s1).trans h)
theorem ak6 i1 o2 n3 s4 s5 {o}(h:J1b RZ.R RZ.D i1 o2 n3 s4 s5=some o):J1 RZ i1 o2 n3 s4 s5=some o:=ac1 (by kernel_rfl) ((ah3 RZ i1 o2 n3 s4 s5).trans h)
end af3
namespace ac9
def L0P :List Nat:=[0,1,0,1]
def L0F (v1 v2:V)(n3 n4:Int)(s5:List O):St:=⟨mkT 19 [(0,v1,.no),(1,v2,.no),(7,(vI n3),.no),(8,(vI n4),.no)],mkA 0 [],0,[],s5,[]⟩
noncomputable def L0 (Z:Env):=fun v1 v2 n3 n4 s5=>Z.X 64 .body L0P (L0F v1 v2 n3 n4 s5)
noncomputable def b (_rr:Rec)(_dd:Option V->Rec)(jL0:V->V->Int->Int->List O->R)(v1 v2:V)(s:List O):R:=(lnV v1).bind fun n3=>jL0 (v1) (v2) (n3) (z0) (s)
theorem b_eq (Z:Env) v1 v2 s:ah0 Z 64 [v1,v2] s=b Z.R Z.D (L0 Z) v1 v2 s:=by kernel_rfl
noncomputable def L0b (rr:Rec)(_dd:Option V->Rec)(jL0:V->V->Int->Int->List O->R)(v1 v2:V)(n3 n4:Int)(s5:List O):R:=bif (decide (n4<n3)) then (ixV 1 v1 n4).bind fun p6=>ck (az2 p6) (ld1 s5 p6 fun c7=>aS c7 fun s8=>aD5 rr v2 [(vS s8)] s5 (fun v9 s10=>aB v9 fun b11=>bif b11 then retR [(vI n4)] s10 else jL0 (v1) (v2) (n3) ((w6 (n4+z1))) (s10)) panK) else retR [(vI (-1))] s5
theorem ah2 (Z:Env) v1 v2 n3 n4 s5:aj9 Z 64 .body L0P (L0F v1 v2 n3 n4 s5)=L0b Z.R Z.D (L0 Z) v1 v2 n3 n4 s5:=by kernel_rfl
theorem b_of v1 v2 s {o}(h:b RZ.R RZ.D (L0 RZ) v1 v2 s=some o):RZ.R ak7 [v1,v2] s=some o:=ae0 ((b_eq RZ v1 v2 s).trans h)
theorem ag4 v1 v2 n3 n4 s5 {o}(h:L0b RZ.R RZ.D (L0 RZ) v1 v2 n3 n4 s5=some o):L0 RZ v1 v2 n3 n4 s5=some o:=af7 ((ah2 RZ v1 v2 n3 n4 s5).trans h)
end ac9
end Go.Proofs.YtnpjififnhjbbaaDoor.E
