/- It is proved of functions that TxnQueue reaches what their evaluation is, in plain words. No condition. -/
import Derived.Test.YtnpjififnhjbbaaDoorLH
set_option maxRecDepth 100000
set_option maxHeartbeats 40000
namespace Go.Proofs.YtnpjififnhjbbaaDoor.E
open Go
namespace ah4
def L0P :List Nat:=[0,1,0,1,1,1,1,1,1,1]
def L0F (v1:V)(n2 n3:Int)(e4:List V)(n5 n6:Int)(s7:List O):St:=⟨mkT 70 [(1,v1,.no),(3,(vI n2),.no),(4,(vI n3),.no),(34,(vL true 3 e4),.full),(35,(vI n5),.no),(36,(vI n6),.no)],mkA 2 [],0,[],s7,[]⟩
noncomputable def L0 (Z:Env):=fun v1 n2 n3 e4 n5 n6 s7=>Z.X 6 .body L0P (L0F v1 n2 n3 e4 n5 n6 s7)
def J1P :List Nat:=[0,1,1,0,0,1,1,0,0,1,0,1,1,1,1,1,1,1]
def J1F (v1:V)(n2 n3:Int)(e4:List V)(n5 n6:Int)(b7:Bool)(s8:List O):St:=⟨mkT 70 [(1,v1,.no),(3,(vI n2),.no),(4,(vI n3),.no),(34,(vL true 3 e4),.full),(35,(vI n5),.no),(36,(vI n6),.no),(56,(vB b7),.no)],mkA 2 [],0,[],s8,[]⟩
noncomputable def J1 (Z:Env):=fun v1 n2 n3 e4 n5 n6 b7 s8=>Z.X 6 .body J1P (J1F v1 n2 n3 e4 n5 n6 b7 s8)
def J2P :List Nat:=[0,1,1,1,1,1,1,1,1]
def J2F (b1:Bool)(s2:List O):St:=⟨mkT 70 [(0,(vB b1),.no)],mkA 2 [],0,[],s2,[]⟩
noncomputable def J2 (Z:Env):=fun b1 s2=>Z.X 6 .body J2P (J2F b1 s2)
noncomputable def b (rr:Rec)(_dd:Option V->Rec)(jL0:V->Int->Int->List V->Int->Int->List O->R):R:=cS (rr aS1 [] []) (fun v1 s2=>at0 v1 fun b3=>bif b3 then retR [(vB false)] s2 else ck (([v1,(vI 0)]).all ad2) (cT (rr am1 [v1,(vI 0)] s2) (fun v4 s5=>aT v4 fun c6=>aC c6 fun v7 r8=>aI v7 fun n9=>aC r8 fun v10 r11=>aI v10 fun n12=>aN r11 (ck (([v1,(vI n9),(vS (⟨#[97]⟩:ByteArray))]).all ad2) (cS (rr ae8 [v1,(vI n9),(vS (⟨#[97]⟩:ByteArray))] s5) (fun v13 s14=>aI v13 fun _=>ck (([v1,(vI n9),(vS (⟨#[98]⟩:ByteArray))]).all ad2) (cS (rr ae8 [v1,(vI n9),(vS (⟨#[98]⟩:ByteArray))] s14) (fun v16 s17=>aI v16 fun _=>ck (([v1,(vI n9)]).all ad2) (cS (rr ag0 [v1,(vI n9)] s17) (fun v19 s20=>aI v19 fun n21=>jL0 (v1) (n12) (n21) ([(vA [(vI n9),(vI 2),(vS (⟨#[97]⟩:ByteArray))]),(vA [(vI n9),(vI 2),(vS (⟨#[98]⟩:ByteArray))]),(vA [(vI n9),(vI 3),(vS (⟨#[97]⟩:ByteArray))]),(vA [(vI n9),(vI 3),(vS (⟨#[98]⟩:ByteArray))])]) ((([(vA [(vI n9),(vI 2),(vS (⟨#[97]⟩:ByteArray))]),(vA [(vI n9),(vI 2),(vS (⟨#[98]⟩:ByteArray))]),(vA [(vI n9),(vI 3),(vS (⟨#[97]⟩:ByteArray))]),(vA [(vI n9),(vI 3),(vS (⟨#[98]⟩:ByteArray))])]).length:Int)) (z0) (s20)) panK)) panK)) panK))) panK)) panK
theorem b_eq (Z:Env):ah0 Z 6 [] []=b Z.R Z.D (L0 Z):=by kernel_rfl
noncomputable def L0b (rr:Rec)(_dd:Option V->Rec)(jJ1:V->Int->Int->List V->Int->Int->Bool->List O->R)(jJ2:Bool->List O->R)(v1:V)(n2 n3:Int)(e4:List V)(n5 n6:Int)(s7:List O):R:=bif (decide (n6<n5)) then idxK e4 n6 fun v8=>aC (V.cells v8) fun v9 r10=>aI v9 fun n11=>aC r10 fun v12 r13=>aI v12 fun n14=>aC r13 fun v15 r16=>aS v15 fun s17=>aN r16 (ck (([v1]).all ad2) (cT (rr ae6 [v1] s7) (fun v18 s19=>aT v18 fun c20=>aC c20 fun v21 r22=>aA v21 fun c23=>aC c23 fun v24 r25=>aI v24 fun n26=>aC r25 fun v27 r28=>aI v27 fun n29=>aC r28 fun v30 r31=>aS v30 fun s32=>aN r31 (aC r22 fun v33 r34=>aI v33 fun n35=>aN r34 (bif (n35 !=z0) then ck (nlB 0 [(v1,.no)]) (ck (nlB 1 [(v1,.no)]) (jJ1 (v1) (n2) (n3) (e4) (n5) (n6) (true) (s19))) else bif (!((n26==n11)&&((n29==n14)&&((s32==s17)&&true)))) then ck (nlB 0 [(v1,.no)]) (ck (nlB 1 [(v1,.no)]) (jJ1 (v1) (n2) (n3) (e4) (n5) (n6) (true) (s19))) else ck (([v1,(vI 1)]).all ad2) (cS (rr af0 [v1,(vI 1)] s19) (fun v36 s37=>aI v36 fun n38=>ck (nlB 0 [(v1,.no)]) (ck (nlB 1 [(v1,.no)]) (jJ1 (v1) (n2) (n3) (e4) (n5) (n6) ((n38 !=z0)) (s37)))) panK)))) panK)) else bif (n2==z0) then bif (n3==z0) then ck (([v1]).all ad2) (cS (rr aj6 [v1] s7) (fun v43 s44=>aL 1 v43 fun m45 e46=>ck (ac0 [(vL m45 1 e46),(vL true 1 [(vS (⟨#[99,111,109,109,105,116,32,49,32,97,32,98]⟩:ByteArray)),(vS (⟨#[101,110,100,32,49]⟩:ByteArray))])]) (cP (rr ag9 [(vL m45 1 e46),(vL true 1 [(vS (⟨#[99,111,109,109,105,116,32,49,32,97,32,98]⟩:ByteArray)),(vS (⟨#[101,110,100,32,49]⟩:ByteArray))])] []) (fun v47=>aB v47 fun b48=>jJ2 (b48) (s44)) (fun p49=>panK p49 s44))) panK) else jJ2 (false) (s7) else jJ2 (false) (s7)
theorem ah2 (Z:Env) v1 n2 n3 e4 n5 n6 s7:aj9 Z 6 .body L0P (L0F v1 n2 n3 e4 n5 n6 s7)=L0b Z.R Z.D (J1 Z) (J2 Z) v1 n2 n3 e4 n5 n6 s7:=by kernel_rfl
noncomputable def J1b (_rr:Rec)(_dd:Option V->Rec)(jL0:V->Int->Int->List V->Int->Int->List O->R)(v1:V)(n2 n3:Int)(e4:List V)(n5 n6:Int)(b7:Bool)(s8:List O):R:=bif b7 then retR [(vB false)] s8 else jL0 (v1) (n2) (n3) (e4) (n5) ((w6 (n6+z1))) (s8)
theorem ah3 (Z:Env) v1 n2 n3 e4 n5 n6 b7 s8:ad6 Z 6 .body J1P (J1F v1 n2 n3 e4 n5 n6 b7 s8)=J1b Z.R Z.D (L0 Z) v1 n2 n3 e4 n5 n6 b7 s8:=by kernel_rfl
noncomputable def J2b (_rr:Rec)(_dd:Option V->Rec)(b1:Bool)(s2:List O):R:=retR [(vB b1)] s2
theorem am0 (Z:Env) b1 s2:ad6 Z 6 .body J2P (J2F b1 s2)=J2b Z.R Z.D b1 s2:=by kernel_rfl
theorem b_of {o}(h:b RZ.R RZ.D (L0 RZ)=some o):RZ.R af9 [] []=some o:=ae0 ((b_eq RZ).trans h)
theorem ag4 v1 n2 n3 e4 n5 n6 s7 {o}(h:L0b RZ.R RZ.D (J1 RZ) (J2 RZ) v1 n2 n3 e4 n5 n6 s7=some o):L0 RZ v1 n2 n3 e4 n5 n6 s7=some o:=af7 ((ah2 RZ v1 n2 n3 e4 n5 n6 s7).trans h)
theorem ak6 v1 n2 n3 e4 n5 n6 b7 s8 {o}(h:J1b RZ.R RZ.D (L0 RZ) v1 n2 n3 e4 n5 n6 b7 s8=some o):J1 RZ v1 n2 n3 e4 n5 n6 b7 s8=some o:=ac1 (by kernel_rfl) ((ah3 RZ v1 n2 n3 e4 n5 n6 b7 s8).trans h)
theorem ar1 b1 s2 {o}(h:J2b RZ.R RZ.D b1 s2=some o):J2 RZ b1 s2=some o:=ac1 (by kernel_rfl) ((am0 RZ b1 s2).trans h)
end ah4
namespace txn_New
noncomputable def b (_rr:Rec)(_dd:Option V->Rec)(s:List O):R:=retR [(vO ((s++[O.map [] 0])).length 0)] ((s++[O.map [] 0])++[(O.box [((V.map (s).length),false),((vI 1),false),((vL false 0 []),true),((vB false),false),((vL false 1 []),true)])])
theorem b_eq (Z:Env) s:ah0 Z 7 [] s=b Z.R Z.D s:=by kernel_rfl
theorem b_of s {o}(h:b RZ.R RZ.D s=some o):RZ.R aS1 [] s=some o:=ae0 ((b_eq RZ s).trans h)
end txn_New
namespace an8
def J0P :List Nat:=[1,0,1,1]
def J0F (i1 o2:Nat)(n3:Int)(s4:List O):St:=⟨mkT 57 [(0,(vO i1 o2),.no),(1,(vI n3),.no)],mkA 0 [],0,[],s4,[]⟩
noncomputable def J0 (Z:Env):=fun i1 o2 n3 s4=>Z.X 8 .body J0P (J0F i1 o2 n3 s4)
noncomputable def b (rr:Rec)(_dd:Option V->Rec)(jJ0:Nat->Nat->Int->List O->R)(i1 o2:Nat)(a3:Int)(s:List O):R:=bif (a3 !=z0) then cT (rr af8 [(vO i1 o2),(vI a3)] s) (fun v4 s5=>aT v4 fun c6=>aC c6 fun v7 r8=>aC r8 fun v9 r10=>aI v9 fun n11=>aN r10 (bif (n11 !=z0) then retR [(vI 0),(vI n11)] s5 else aO v7 fun i12 o13=>rd1 s5 i12 (o13+4) fun v14=>aI v14 fun n15=>bif (n15 !=z1) then retR [(vI 0),(vI 9)] s5 else jJ0 (i1) (o2) (a3) (s5))) panK else jJ0 (i1) (o2) (a3) (s)
theorem b_eq (Z:Env) i1 o2 a3 s:ah0 Z 8 [(vO i1 o2),(vI a3)] s=b Z.R Z.D (J0 Z) i1 o2 a3 s:=by kernel_rfl
noncomputable def J0b (_rr:Rec)(_dd:Option V->Rec)(i1 o2:Nat)(n3:Int)(s4:List O):R:=rd1 s4 i1 (o2+0) fun v5=>aM2 v5 fun i6=>mapK s4 i6 fun e7 _=>bif (((e7).length:Int)==(60:Int)) then retR [(vI 0),(vI 4)] s4 else rd1 s4 i1 (o2+1) fun v9=>aI v9 fun n10=>rd1 s4 i1 (o2+1) fun v11=>aI v11 fun n12=>wrO s4 i1 (o2+1) [((vI (w6 (n12+z1))),false)] fun s13=>rd1 s13 i1 (o2+0) fun v14=>aM2 v14 fun i15=>mapK ((s13++[O.map [] 0])++[(O.box [((vL false 1 []),true),((vL false 1 []),true),((vI n10),false),((vI n3),false),((vI 1),false),((vB false),false),((vB false),false),((vB false),false),((vL false 1 []),true),((vL false 2 []),true),((vL false 1 []),true),((vL false 1 []),true),((vL false 1 []),true),((V.map (s13).length),false),((vB false),false)])]) i15 fun e16 c17=>putK (vI n10) (vO ((s13++[O.map [] 0])).length 0) e16 fun e18=>retR [(vI n10),(vI 0)] ((((s13++[O.map [] 0])++[(O.box [((vL false 1 []),true),((vL false 1 []),true),((vI n10),false),((vI n3),false),((vI 1),false),((vB false),false),((vB false),false),((vB false),false),((vL false 1 []),true),((vL false 2 []),true),((vL false 1 []),true),((vL false 1 []),true),((vL false 1 []),true),((V.map (s13).length),false),((vB false),false)])])).set i15 (O.map e18 (if (e18).length=(e16).length then c17 else c17+1)))
theorem ak2 (Z:Env) i1 o2 n3 s4:ad6 Z 8 .body J0P (J0F i1 o2 n3 s4)=J0b Z.R Z.D i1 o2 n3 s4:=by kernel_rfl
theorem b_of i1 o2 a3 s {o}(h:b RZ.R RZ.D (J0 RZ) i1 o2 a3 s=some o):RZ.R am1 [(vO i1 o2),(vI a3)] s=some o:=ae0 ((b_eq RZ i1 o2 a3 s).trans h)
theorem am9 i1 o2 n3 s4 {o}(h:J0b RZ.R RZ.D i1 o2 n3 s4=some o):J0 RZ i1 o2 n3 s4=some o:=ac1 (by kernel_rfl) ((ak2 RZ i1 o2 n3 s4).trans h)
end an8
namespace aa3
def J0P :List Nat:=[0,1,1,1,0,1,0,1,1,1]
def J0F (i1 o2:Nat)(m3:Bool)(e4:List V)(n5:Int)(s6:List O):St:=⟨mkT 134 [(0,(vO i1 o2),.no),(2,(vL m3 1 e4),.no),(7,(vI n5),.no)],mkA 0 [],0,[],s6,[]⟩
noncomputable def J0 (Z:Env):=fun i1 o2 m3 e4 n5 s6=>Z.X 37 .body J0P (J0F i1 o2 m3 e4 n5 s6)
def J1P :List Nat:=[0,0,1,1,1,1,1,0,1,0,1,1,1]
def J1F (i1 o2:Nat)(m3:Bool)(e4:List V)(b5:Bool)(s6:List O):St:=⟨mkT 134 [(0,(vO i1 o2),.no),(2,(vL m3 1 e4),.no),(69,(vB b5),.no)],mkA 0 [],0,[],s6,[]⟩
noncomputable def J1 (Z:Env):=fun i1 o2 m3 e4 b5 s6=>Z.X 37 .body J1P (J1F i1 o2 m3 e4 b5 s6)
def J2P :List Nat:=[1,0,1,1,1,1,1,0,1,0,1,1,1]
def J2F (s1:List O):St:=⟨mkT 134 [],mkA 0 [],0,[],s1,[]⟩
noncomputable def J2 (Z:Env):=fun s1=>Z.X 37 .body J2P (J2F s1)
def L3P :List Nat:=[0,1,0,1,1,1,1,1,1]
def L3F (i1 o2:Nat)(m3:Bool)(e4:List V)(m5:Bool)(e6:List V)(b7 m8:Bool)(e9:List V)(n10 n11:Int)(s12:List O):St:=⟨mkT 134 [(0,(vO i1 o2),.no),(8,(vL m3 1 e4),.tok 0),(9,(vL m5 1 e6),.tok 1),(10,(vB b7),.no),(73,(vL m8 1 e9),.no),(74,(vI n10),.no),(75,(vI n11),.no)],mkA 0 [],2,[0,1],s12,[]⟩
noncomputable def L3 (Z:Env):=fun i1 o2 m3 e4 m5 e6 b7 m8 e9 n10 n11 s12=>Z.X 37 .body L3P (L3F i1 o2 m3 e4 m5 e6 b7 m8 e9 n10 n11 s12)
def J4P :List Nat:=[0,1,1,0,0,1,0,1,1,1,1,1,1]
def J4F (i1 o2:Nat)(m3:Bool)(e4:List V)(m5:Bool)(e6:List V)(b7 m8:Bool)(e9:List V)(n10 n11:Int)(s12:List O):St:=⟨mkT 134 [(0,(vO i1 o2),.no),(8,(vL m3 1 e4),.tok 0),(9,(vL m5 1 e6),.tok 1),(10,(vB b7),.no),(73,(vL m8 1 e9),.no),(74,(vI n10),.no),(75,(vI n11),.no)],mkA 0 [],2,[0,1],s12,[]⟩
noncomputable def J4 (Z:Env):=fun i1 o2 m3 e4 m5 e6 b7 m8 e9 n10 n11 s12=>Z.X 37 .body J4P (J4F i1 o2 m3 e4 m5 e6 b7 m8 e9 n10 n11 s12)
def J5P :List Nat:=[1,0,1,1,1,0,0,1,1,0,0,1,0,1,1,1,1,1,1]
def J5F (i1 o2:Nat)(m3:Bool)(e4:List V)(m5:Bool)(e6:List V)(b7 m8:Bool)(e9:List V)(n10 n11:Int)(s12:List O):St:=⟨mkT 134 [(0,(vO i1 o2),.no),(8,(vL m3 1 e4),.tok 0),(9,(vL m5 1 e6),.tok 1),(10,(vB b7),.no),(73,(vL m8 1 e9),.no),(74,(vI n10),.no),(75,(vI n11),.no)],mkA 0 [],2,[0,1],s12,[]⟩
noncomputable def J5 (Z:Env):=fun i1 o2 m3 e4 m5 e6 b7 m8 e9 n10 n11 s12=>Z.X 37 .body J5P (J5F i1 o2 m3 e4 m5 e6 b7 m8 e9 n10 n11 s12)
def J6P :List Nat:=[1,1,1,0,1,1,1,0,0,1,1,0,0,1,0,1,1,1,1,1,1]
def J6F (i1 o2:Nat)(m3:Bool)(e4:List V)(m5:Bool)(e6:List V)(b7 m8:Bool)(e9:List V)(n10 n11:Int)(s12:List O):St:=⟨mkT 134 [(0,(vO i1 o2),.no),(8,(vL m3 1 e4),.tok 0),(9,(vL m5 1 e6),.tok 1),(10,(vB b7),.no),(73,(vL m8 1 e9),.no),(74,(vI n10),.no),(75,(vI n11),.no)],mkA 0 [],2,[0,1],s12,[]⟩
noncomputable def J6 (Z:Env):=fun i1 o2 m3 e4 m5 e6 b7 m8 e9 n10 n11 s12=>Z.X 37 .body J6P (J6F i1 o2 m3 e4 m5 e6 b7 m8 e9 n10 n11 s12)
def J7P :List Nat:=[1,1,1,1,1,0,1,1,1,0,0,1,1,0,0,1,0,1,1,1,1,1,1]
def J7F (i1 o2:Nat)(m3:Bool)(e4:List V)(m5:Bool)(e6:List V)(b7 m8:Bool)(e9:List V)(n10 n11:Int)(s12:List O):St:=⟨mkT 134 [(0,(vO i1 o2),.no),(8,(vL m3 1 e4),.tok 0),(9,(vL m5 1 e6),.tok 1),(10,(vB b7),.no),(73,(vL m8 1 e9),.no),(74,(vI n10),.no),(75,(vI n11),.no)],mkA 0 [],2,[0,1],s12,[]⟩
noncomputable def J7 (Z:Env):=fun i1 o2 m3 e4 m5 e6 b7 m8 e9 n10 n11 s12=>Z.X 37 .body J7P (J7F i1 o2 m3 e4 m5 e6 b7 m8 e9 n10 n11 s12)
def J8P :List Nat:=[1,0,1,1,1,1,1,1,1]
def J8F (s1:List O):St:=⟨mkT 134 [],mkA 0 [],0,[],s1,[]⟩
noncomputable def J8 (Z:Env):=fun s1=>Z.X 37 .body J8P (J8F s1)
def J9P :List Nat:=[1,1,1,0,1,1,1,1,1,1,1]
def J9F (s1:List O):St:=⟨mkT 134 [],mkA 0 [],0,[],s1,[]⟩
noncomputable def J9 (Z:Env):=fun s1=>Z.X 37 .body J9P (J9F s1)
def J10P :List Nat:=[1,1,1,1,1,0,1,1,1,1,1,1,1]
def J10F (s1:List O):St:=⟨mkT 134 [],mkA 0 [],0,[],s1,[]⟩
noncomputable def J10 (Z:Env):=fun s1=>Z.X 37 .body J10P (J10F s1)
noncomputable def b (rr:Rec)(_dd:Option V->Rec)(jJ0:Nat->Nat->Bool->List V->Int->List O->R)(jL3:Nat->Nat->Bool->List V->Bool->List V->Bool->Bool->List V->Int->Int->List O->R)(i1 o2:Nat)(a3 m4:Bool)(l5:List V)(s:List O):R:=rd1 s i1 (o2+10) fun v6=>aB v6 fun b7=>bif b7 then retR [] s else bif (!a3) then cS (rr ad0 [(vO i1 o2),(vI 4),(vL m4 1 l5),(vI 5)] s) (fun v8 s9=>aL 1 v8 fun m10 e11=>cS (rr ad0 [(vO i1 o2),(vI 6),(vL m10 1 e11),(vI 2)] s9) (fun v12 s13=>aL 1 v12 fun _ _=>retR [] s13) panK) panK else bif (((l5).length:Int)==z1) then idxK l5 z0 fun v20=>aC (V.cells v20) fun v21 r22=>aS v21 fun s23=>aN r22 (cS (rr ad1 [(vO i1 o2),(vI 5),(vS s23)] s) (fun v24 s25=>aI v24 fun n26=>wrO s25 i1 (((o2+0)+2)+0) [((vB (n26==z1)),false)] fun s27=>wrO s27 i1 (((o2+0)+2)+1) [((vB (n26==(3:Int))),false)] fun s28=>bif (n26==(4:Int)) then wrO s28 i1 (((o2+0)+2)+2) [((vB true),false)] fun s29=>jJ0 (i1) (o2) (m4) (l5) (n26) (s29) else wrO s28 i1 (((o2+0)+2)+2) [((vB (n26==(5:Int))),false)] fun s30=>jJ0 (i1) (o2) (m4) (l5) (n26) (s30)) panK) else jL3 (i1) (o2) (false) ([]) (false) ([]) (false) (m4) (l5) (((l5).length:Int)) (z0) (s)
theorem b_eq (Z:Env) i1 o2 a3 m4 l5 s:ah0 Z 37 [(vO i1 o2),(vB a3),(vL m4 1 l5)] s=b Z.R Z.D (J0 Z) (L3 Z) i1 o2 a3 m4 l5 s:=by kernel_rfl
noncomputable def J0b (_rr:Rec)(_dd:Option V->Rec)(jJ1:Nat->Nat->Bool->List V->Bool->List O->R)(i1 o2:Nat)(m3:Bool)(e4:List V)(n5:Int)(s6:List O):R:=wrO s6 i1 ((o2+0)+7) [((vB (decide (n5>=3))),false)] fun s7=>bif (decide (n5>=2)) then jJ1 (i1) (o2) (m3) (e4) ((decide (n5<=4))) (s7) else jJ1 (i1) (o2) (m3) (e4) (false) (s7)
theorem ak2 (Z:Env) i1 o2 m3 e4 n5 s6:ad6 Z 37 .body J0P (J0F i1 o2 m3 e4 n5 s6)=J0b Z.R Z.D (J1 Z) i1 o2 m3 e4 n5 s6:=by kernel_rfl
noncomputable def J1b (rr:Rec)(_dd:Option V->Rec)(jJ2:List O->R)(i1 o2:Nat)(m3:Bool)(e4:List V)(b5:Bool)(s6:List O):R:=bif b5 then cS (rr ad0 [(vO i1 o2),(vI 6),(vL m3 1 e4),(vI 2)] s6) (fun v7 s8=>aL 1 v7 fun _ _=>jJ2 (s8)) panK else jJ2 (s6)
theorem ah3 (Z:Env) i1 o2 m3 e4 b5 s6:ad6 Z 37 .body J1P (J1F i1 o2 m3 e4 b5 s6)=J1b Z.R Z.D (J2 Z) i1 o2 m3 e4 b5 s6:=by kernel_rfl
noncomputable def J2b (_rr:Rec)(_dd:Option V->Rec)(s1:List O):R:=retR [] s1
theorem am0 (Z:Env) s1:ad6 Z 37 .body J2P (J2F s1)=J2b Z.R Z.D s1:=by kernel_rfl
noncomputable def L3b (rr:Rec)(_dd:Option V->Rec)(jJ4:Nat->Nat->Bool->List V->Bool->List V->Bool->Bool->List V->Int->Int->List O->R)(jJ5:Nat->Nat->Bool->List V->Bool->List V->Bool->Bool->List V->Int->Int->List O->R)(jJ6:Nat->Nat->Bool->List V->Bool->List V->Bool->Bool->List V->Int->Int->List O->R)(jJ7:Nat->Nat->Bool->List V->Bool->List V->Bool->Bool->List V->Int->Int->List O->R)(jJ8:List O->R)(jJ9:List O->R)(jJ10:List O->R)(i1 o2:Nat)(m3:Bool)(e4:List V)(m5:Bool)(e6:List V)(b7 m8:Bool)(e9:List V)(n10 n11:Int)(s12:List O):R:=bif (decide (n11<n10)) then idxK e9 n11 fun v13=>aC (V.cells v13) fun v14 r15=>aS v14 fun s16=>aN r15 (bif b7 then apK e6 [(vS s16)] 16 (jJ4 (i1) (o2) (m3) (e4) ((m5||!([(vS s16)]).isEmpty)) ((e6++[(vS s16)])) (b7) (m8) (e9) (n10) (n11) (s12)) else cS (rr ad1 [(vO i1 o2),(vI 2),(vS s16)] s12) (fun v17 s18=>aI v17 fun n19=>bif (n19==z1) then apK e4 [(vS s16)] 16 (jJ5 (i1) (o2) ((m3||!([(vS s16)]).isEmpty)) ((e4++[(vS s16)])) (m5) (e6) (b7) (m8) (e9) (n10) (n11) (s18)) else bif (n19==(2:Int)) then jJ6 (i1) (o2) (m3) (e4) (m5) (e6) (true) (m8) (e9) (n10) (n11) (s18) else bif (n19==(4:Int)) then apK e6 [(vS s16)] 16 (jJ7 (i1) (o2) (m3) (e4) ((m5||!([(vS s16)]).isEmpty)) ((e6++[(vS s16)])) (true) (m8) (e9) (n10) (n11) (s18)) else jJ7 (i1) (o2) (m3) (e4) (m5) (e6) (b7) (m8) (e9) (n10) (n11) (s18)) panK) else rd1 s12 i1 (o2+10) fun v22=>aB v22 fun b23=>bif b23 then jJ8 (s12) else bif b7 then apK e4 e6 16 (cS (rr ad0 [(vO i1 o2),(vI 4),(vL (m3||!(e6).isEmpty) 1 (e4++e6)),(vI 5)] s12) (fun v24 s25=>aL 1 v24 fun m26 e27=>cS (rr ad0 [(vO i1 o2),(vI 6),(vL m26 1 e27),(vI 2)] s25) (fun v28 s29=>aL 1 v28 fun _ _=>jJ9 (s29)) panK) panK) else bif (((e4).length:Int)==z0) then wrO s12 i1 (((o2+0)+2)+0) [((vB true),false)] fun s36=>jJ10 (s36) else wrO s12 i1 (((o2+0)+2)+0) [((vB true),false)] fun s37=>as9 (rr aj8 [(vO i1 o2),(vL m3 1 e4)] s37) (fun v38 s39=>aT v38 fun c40=>aN c40 (jJ10 (s39))) panK
theorem bn5 (Z:Env) i1 o2 m3 e4 m5 e6 b7 m8 e9 n10 n11 s12:aj9 Z 37 .body L3P (L3F i1 o2 m3 e4 m5 e6 b7 m8 e9 n10 n11 s12)=L3b Z.R Z.D (J4 Z) (J5 Z) (J6 Z) (J7 Z) (J8 Z) (J9 Z) (J10 Z) i1 o2 m3 e4 m5 e6 b7 m8 e9 n10 n11 s12:=by kernel_rfl
noncomputable def J4b (_rr:Rec)(_dd:Option V->Rec)(jL3:Nat->Nat->Bool->List V->Bool->List V->Bool->Bool->List V->Int->Int->List O->R)(i1 o2:Nat)(m3:Bool)(e4:List V)(m5:Bool)(e6:List V)(b7 m8:Bool)(e9:List V)(n10 n11:Int)(s12:List O):R:=jL3 (i1) (o2) (m3) (e4) (m5) (e6) (b7) (m8) (e9) (n10) ((w6 (n11+z1))) (s12)
theorem aB0 (Z:Env) i1 o2 m3 e4 m5 e6 b7 m8 e9 n10 n11 s12:ad6 Z 37 .body J4P (J4F i1 o2 m3 e4 m5 e6 b7 m8 e9 n10 n11 s12)=J4b Z.R Z.D (L3 Z) i1 o2 m3 e4 m5 e6 b7 m8 e9 n10 n11 s12:=by kernel_rfl
noncomputable def J5b (_rr:Rec)(_dd:Option V->Rec)(jJ4:Nat->Nat->Bool->List V->Bool->List V->Bool->Bool->List V->Int->Int->List O->R)(i1 o2:Nat)(m3:Bool)(e4:List V)(m5:Bool)(e6:List V)(b7 m8:Bool)(e9:List V)(n10 n11:Int)(s12:List O):R:=jJ4 (i1) (o2) (m3) (e4) (m5) (e6) (b7) (m8) (e9) (n10) (n11) (s12)
theorem aN3 (Z:Env) i1 o2 m3 e4 m5 e6 b7 m8 e9 n10 n11 s12:ad6 Z 37 .body J5P (J5F i1 o2 m3 e4 m5 e6 b7 m8 e9 n10 n11 s12)=J5b Z.R Z.D (J4 Z) i1 o2 m3 e4 m5 e6 b7 m8 e9 n10 n11 s12:=by kernel_rfl
noncomputable def J6b (_rr:Rec)(_dd:Option V->Rec)(jJ5:Nat->Nat->Bool->List V->Bool->List V->Bool->Bool->List V->Int->Int->List O->R)(i1 o2:Nat)(m3:Bool)(e4:List V)(m5:Bool)(e6:List V)(b7 m8:Bool)(e9:List V)(n10 n11:Int)(s12:List O):R:=jJ5 (i1) (o2) (m3) (e4) (m5) (e6) (b7) (m8) (e9) (n10) (n11) (s12)
theorem aW3 (Z:Env) i1 o2 m3 e4 m5 e6 b7 m8 e9 n10 n11 s12:ad6 Z 37 .body J6P (J6F i1 o2 m3 e4 m5 e6 b7 m8 e9 n10 n11 s12)=J6b Z.R Z.D (J5 Z) i1 o2 m3 e4 m5 e6 b7 m8 e9 n10 n11 s12:=by kernel_rfl
noncomputable def J7b (_rr:Rec)(_dd:Option V->Rec)(jJ6:Nat->Nat->Bool->List V->Bool->List V->Bool->Bool->List V->Int->Int->List O->R)(i1 o2:Nat)(m3:Bool)(e4:List V)(m5:Bool)(e6:List V)(b7 m8:Bool)(e9:List V)(n10 n11:Int)(s12:List O):R:=jJ6 (i1) (o2) (m3) (e4) (m5) (e6) (b7) (m8) (e9) (n10) (n11) (s12)
theorem bn9 (Z:Env) i1 o2 m3 e4 m5 e6 b7 m8 e9 n10 n11 s12:ad6 Z 37 .body J7P (J7F i1 o2 m3 e4 m5 e6 b7 m8 e9 n10 n11 s12)=J7b Z.R Z.D (J6 Z) i1 o2 m3 e4 m5 e6 b7 m8 e9 n10 n11 s12:=by kernel_rfl
noncomputable def J8b (_rr:Rec)(_dd:Option V->Rec)(s1:List O):R:=retR [] s1
theorem bn8 (Z:Env) s1:ad6 Z 37 .body J8P (J8F s1)=J8b Z.R Z.D s1:=by kernel_rfl
noncomputable def J9b (_rr:Rec)(_dd:Option V->Rec)(jJ8:List O->R)(s1:List O):R:=jJ8 (s1)
theorem bn7 (Z:Env) s1:ad6 Z 37 .body J9P (J9F s1)=J9b Z.R Z.D (J8 Z) s1:=by kernel_rfl
noncomputable def J10b (_rr:Rec)(_dd:Option V->Rec)(jJ9:List O->R)(s1:List O):R:=jJ9 (s1)
theorem aZ0 (Z:Env) s1:ad6 Z 37 .body J10P (J10F s1)=J10b Z.R Z.D (J9 Z) s1:=by kernel_rfl
theorem b_of i1 o2 a3 m4 l5 s {o}(h:b RZ.R RZ.D (J0 RZ) (L3 RZ) i1 o2 a3 m4 l5 s=some o):RZ.R ae4 [(vO i1 o2),(vB a3),(vL m4 1 l5)] s=some o:=ae0 ((b_eq RZ i1 o2 a3 m4 l5 s).trans h)
theorem am9 i1 o2 m3 e4 n5 s6 {o}(h:J0b RZ.R RZ.D (J1 RZ) i1 o2 m3 e4 n5 s6=some o):J0 RZ i1 o2 m3 e4 n5 s6=some o:=ac1 (by kernel_rfl) ((ak2 RZ i1 o2 m3 e4 n5 s6).trans h)
theorem ak6 i1 o2 m3 e4 b5 s6 {o}(h:J1b RZ.R RZ.D (J2 RZ) i1 o2 m3 e4 b5 s6=some o):J1 RZ i1 o2 m3 e4 b5 s6=some o:=ac1 (by kernel_rfl) ((ah3 RZ i1 o2 m3 e4 b5 s6).trans h)
theorem ar1 s1 {o}(h:J2b RZ.R RZ.D s1=some o):J2 RZ s1=some o:=ac1 (by kernel_rfl) ((am0 RZ s1).trans h)
theorem aP1 i1 o2 m3 e4 m5 e6 b7 m8 e9 n10 n11 s12 {o}(h:L3b RZ.R RZ.D (J4 RZ) (J5 RZ) (J6 RZ) (J7 RZ) (J8 RZ) (J9 RZ) (J10 RZ) i1 o2 m3 e4 m5 e6 b7 m8 e9 n10 n11 s12=some o):L3 RZ i1 o2 m3 e4 m5 e6 b7 m8 e9 n10 n11 s12=some o:=af7 ((bn5 RZ i1 o2 m3 e4 m5 e6 b7 m8 e9 n10 n11 s12).trans h)
theorem aH9 i1 o2 m3 e4 m5 e6 b7 m8 e9 n10 n11 s12 {o}(h:J4b RZ.R RZ.D (L3 RZ) i1 o2 m3 e4 m5 e6 b7 m8 e9 n10 n11 s12=some o):J4 RZ i1 o2 m3 e4 m5 e6 b7 m8 e9 n10 n11 s12=some o:=ac1 (by kernel_rfl) ((aB0 RZ i1 o2 m3 e4 m5 e6 b7 m8 e9 n10 n11 s12).trans h)
theorem aY9 i1 o2 m3 e4 m5 e6 b7 m8 e9 n10 n11 s12 {o}(h:J5b RZ.R RZ.D (J4 RZ) i1 o2 m3 e4 m5 e6 b7 m8 e9 n10 n11 s12=some o):J5 RZ i1 o2 m3 e4 m5 e6 b7 m8 e9 n10 n11 s12=some o:=ac1 (by kernel_rfl) ((aN3 RZ i1 o2 m3 e4 m5 e6 b7 m8 e9 n10 n11 s12).trans h)
theorem br7 i1 o2 m3 e4 m5 e6 b7 m8 e9 n10 n11 s12 {o}(h:J6b RZ.R RZ.D (J5 RZ) i1 o2 m3 e4 m5 e6 b7 m8 e9 n10 n11 s12=some o):J6 RZ i1 o2 m3 e4 m5 e6 b7 m8 e9 n10 n11 s12=some o:=ac1 (by kernel_rfl) ((aW3 RZ i1 o2 m3 e4 m5 e6 b7 m8 e9 n10 n11 s12).trans h)
theorem bC0 i1 o2 m3 e4 m5 e6 b7 m8 e9 n10 n11 s12 {o}(h:J7b RZ.R RZ.D (J6 RZ) i1 o2 m3 e4 m5 e6 b7 m8 e9 n10 n11 s12=some o):J7 RZ i1 o2 m3 e4 m5 e6 b7 m8 e9 n10 n11 s12=some o:=ac1 (by kernel_rfl) ((bn9 RZ i1 o2 m3 e4 m5 e6 b7 m8 e9 n10 n11 s12).trans h)
theorem J8_of s1 {o}(h:J8b RZ.R RZ.D s1=some o):J8 RZ s1=some o:=ac1 (by kernel_rfl) ((bn8 RZ s1).trans h)
theorem J9_of s1 {o}(h:J9b RZ.R RZ.D (J8 RZ) s1=some o):J9 RZ s1=some o:=ac1 (by kernel_rfl) ((bn7 RZ s1).trans h)
theorem bd7 s1 {o}(h:J10b RZ.R RZ.D (J9 RZ) s1=some o):J10 RZ s1=some o:=ac1 (by kernel_rfl) ((aZ0 RZ s1).trans h)
end aa3
namespace am3
noncomputable def b (rr:Rec)(_dd:Option V->Rec)(v1:V)(a2:ByteArray)(s:List O):R:=ck (([v1,(vS a2)]).all ad2) (cS (rr an0 [v1,(vS a2)] s) (fun v3 s4=>aI v3 fun n5=>retR [(vB (decide (n5>=0)))] s4) panK)
theorem b_eq (Z:Env) v1 a2 s:ah0 Z 40 [v1,(vS a2)] s=b Z.R Z.D v1 a2 s:=by kernel_rfl
theorem b_of v1 a2 s {o}(h:b RZ.R RZ.D v1 a2 s=some o):RZ.R ac2 [v1,(vS a2)] s=some o:=ae0 ((b_eq RZ v1 a2 s).trans h)
end am3
namespace af2
def J0P :List Nat:=[1,1]
def J0F (s1:List O):St:=⟨mkT 22 [],mkA 0 [],0,[],s1,[]⟩
noncomputable def J0 (Z:Env):=fun s1=>Z.X 45 .body J0P (J0F s1)
noncomputable def b (rr:Rec)(_dd:Option V->Rec)(jJ0:List O->R)(i1 o2 i3 o4:Nat)(_a5:Int)(_a6:ByteArray)(a7:Int)(s:List O):R:=bif (a7==(2:Int)) then rd1 s i3 ((o4+0)+0) fun v8=>aL 1 v8 fun m9 e10=>cS (rr ac3 [(vL m9 1 e10)] s) (fun v11 s12=>ck (V.good v11) (wrO s12 i3 (o4+11) [(v11,(nilB v11))] fun s13=>as9 (rr ae9 [(vO i1 o2),(vO i3 o4)] s13) (fun v14 s15=>aT v14 fun c16=>aN c16 (jJ0 (s15))) panK)) panK else jJ0 (s)
theorem b_eq (Z:Env) i1 o2 i3 o4 a5 a6 a7 s:ah0 Z 45 [(vO i1 o2),(vO i3 o4),(vA [(vI a5),(vS a6)]),(vI a7)] s=b Z.R Z.D (J0 Z) i1 o2 i3 o4 a5 a6 a7 s:=by kernel_rfl
noncomputable def J0b (_rr:Rec)(_dd:Option V->Rec)(s1:List O):R:=retR [] s1
theorem ak2 (Z:Env) s1:ad6 Z 45 .body J0P (J0F s1)=J0b Z.R Z.D s1:=by kernel_rfl
theorem b_of i1 o2 i3 o4 a5 a6 a7 s {o}(h:b RZ.R RZ.D (J0 RZ) i1 o2 i3 o4 a5 a6 a7 s=some o):RZ.R ay3 [(vO i1 o2),(vO i3 o4),(vA [(vI a5),(vS a6)]),(vI a7)] s=some o:=ae0 ((b_eq RZ i1 o2 i3 o4 a5 a6 a7 s).trans h)
theorem am9 s1 {o}(h:J0b RZ.R RZ.D s1=some o):J0 RZ s1=some o:=ac1 (by kernel_rfl) ((ak2 RZ s1).trans h)
end af2
namespace ad8
def J0P :List Nat:=[0,1,1,1]
def J0F (i1 o2:Nat)(b3:Bool)(s4:List O):St:=⟨mkT 54 [(0,(vO i1 o2),.no),(36,(vB b3),.no)],mkA 0 [],0,[],s4,[]⟩
noncomputable def J0 (Z:Env):=fun i1 o2 b3 s4=>Z.X 52 .body J0P (J0F i1 o2 b3 s4)
def J1P :List Nat:=[1,1,1,1]
def J1F (s1:List O):St:=⟨mkT 54 [],mkA 0 [],0,[],s1,[]⟩
noncomputable def J1 (Z:Env):=fun s1=>Z.X 52 .body J1P (J1F s1)
noncomputable def b (rr:Rec)(_dd:Option V->Rec)(jJ0:Nat->Nat->Bool->List O->R)(i1 o2:Nat)(m3:Bool)(l4:List V)(s:List O):R:=rd1 s i1 (o2+8) fun v5=>aI v5 fun n6=>ck (ac0 [(vI n6),(vL m3 1 l4)]) (cP (rr aN0 [(vI n6),(vL m3 1 l4)] []) (fun v7=>aS v7 fun s8=>wrO s i1 ((o2+0)+1) [((vL true 1 [(vS s8)]),true)] fun s9=>cS (rr ad0 [(vO i1 o2),(vI 3),(vL m3 1 l4),(vI 5)] s9) (fun v10 s11=>aL 1 v10 fun m12 e13=>cS (rr ad0 [(vO i1 o2),(vI 6),(vL m12 1 e13),(vI 2)] s11) (fun v14 s15=>aL 1 v14 fun _ _=>rd1 s15 i1 (o2+10) fun v18=>aB v18 fun b19=>bif (!b19) then rd1 s15 i1 (((o2+0)+2)+3) fun v20=>aL 1 v20 fun _ e22=>jJ0 (i1) (o2) ((((e22).length:Int)==z0)) (s15) else jJ0 (i1) (o2) (false) (s15)) panK) panK) (fun p27=>panK p27 s))
theorem b_eq (Z:Env) i1 o2 m3 l4 s:ah0 Z 52 [(vO i1 o2),(vL m3 1 l4)] s=b Z.R Z.D (J0 Z) i1 o2 m3 l4 s:=by kernel_rfl
noncomputable def J0b (rr:Rec)(_dd:Option V->Rec)(jJ1:List O->R)(i1 o2:Nat)(b3:Bool)(s4:List O):R:=bif b3 then as4 [(rdT s4 i1 ((o2+0)+1) (fun v5=>aL 1 v5 fun m6 e7=>rd1 s4 i1 (o2+8) fun v8=>aI v8 fun n9=>cP (rr at3 [(vI n9)] []) (fun v10=>aS v10 fun s11=>ck (Nat.ble (((⟨#[101,110,100,32]⟩:ByteArray)).size+(s11).size) 9223372036854775807) (apK e7 [(vS ((⟨#[101,110,100,32]⟩:ByteArray)++s11))] 16 (ck (!m6) (wrO s4 i1 ((o2+0)+1) [((vL true 1 (e7++[(vS ((⟨#[101,110,100,32]⟩:ByteArray)++s11))])),true)] fun s12=>jJ1 (s12))))) (fun _=>none)) (fun v5 s14=>aL 1 v5 fun m15 e16=>rd1 s14 i1 (o2+8) fun v17=>aI v17 fun n18=>cP (rr at3 [(vI n18)] []) (fun v19=>aS v19 fun s20=>ck (Nat.ble (((⟨#[101,110,100,32]⟩:ByteArray)).size+(s20).size) 9223372036854775807) (apK e16 [(vS ((⟨#[101,110,100,32]⟩:ByteArray)++s20))] 16 (wrO s14 i1 ((o2+0)+1) [((vL (m15||!([(vS ((⟨#[101,110,100,32]⟩:ByteArray)++s20))]).isEmpty) 1 (e16++[(vS ((⟨#[101,110,100,32]⟩:ByteArray)++s20))])),true)] fun s21=>jJ1 (s21)))) (fun _=>none))),(rd1 s4 i1 (o2+8) fun v23=>aI v23 fun n24=>cP (rr at3 [(vI n24)] []) (fun v25=>aS v25 fun s26=>ck (Nat.ble (((⟨#[101,110,100,32]⟩:ByteArray)).size+(s26).size) 9223372036854775807) (rdT s4 i1 ((o2+0)+1) (fun v27=>aL 1 v27 fun m28 e29=>apK e29 [(vS ((⟨#[101,110,100,32]⟩:ByteArray)++s26))] 16 (ck (!m28) (wrO s4 i1 ((o2+0)+1) [((vL true 1 (e29++[(vS ((⟨#[101,110,100,32]⟩:ByteArray)++s26))])),true)] fun s30=>jJ1 (s30)))) (fun v27 s31=>aL 1 v27 fun m32 e33=>apK e33 [(vS ((⟨#[101,110,100,32]⟩:ByteArray)++s26))] 16 (wrO s31 i1 ((o2+0)+1) [((vL (m32||!([(vS ((⟨#[101,110,100,32]⟩:ByteArray)++s26))]).isEmpty) 1 (e33++[(vS ((⟨#[101,110,100,32]⟩:ByteArray)++s26))])),true)] fun s34=>jJ1 (s34))))) (fun _=>none))] else jJ1 (s4)
theorem ak2 (Z:Env) i1 o2 b3 s4:ad6 Z 52 .body J0P (J0F i1 o2 b3 s4)=J0b Z.R Z.D (J1 Z) i1 o2 b3 s4:=by kernel_rfl
noncomputable def J1b (_rr:Rec)(_dd:Option V->Rec)(s1:List O):R:=retR [] s1
theorem ah3 (Z:Env) s1:ad6 Z 52 .body J1P (J1F s1)=J1b Z.R Z.D s1:=by kernel_rfl
theorem b_of i1 o2 m3 l4 s {o}(h:b RZ.R RZ.D (J0 RZ) i1 o2 m3 l4 s=some o):RZ.R aj8 [(vO i1 o2),(vL m3 1 l4)] s=some o:=ae0 ((b_eq RZ i1 o2 m3 l4 s).trans h)
theorem am9 i1 o2 b3 s4 {o}(h:J0b RZ.R RZ.D (J1 RZ) i1 o2 b3 s4=some o):J0 RZ i1 o2 b3 s4=some o:=ac1 (by kernel_rfl) ((ak2 RZ i1 o2 b3 s4).trans h)
theorem ak6 s1 {o}(h:J1b RZ.R RZ.D s1=some o):J1 RZ s1=some o:=ac1 (by kernel_rfl) ((ah3 RZ s1).trans h)
end ad8
namespace ad4
def L0P :List Nat:=[0,1,0,1]
def L0F (v1:V)(s2:ByteArray)(n3 n4:Int)(s5:List O):St:=⟨mkT 19 [(0,v1,.no),(1,(vS s2),.no),(7,(vI n3),.no),(8,(vI n4),.no)],mkA 0 [],0,[],s5,[]⟩
noncomputable def L0 (Z:Env):=fun v1 s2 n3 n4 s5=>Z.X 53 .body L0P (L0F v1 s2 n3 n4 s5)
noncomputable def b (_rr:Rec)(_dd:Option V->Rec)(jL0:V->ByteArray->Int->Int->List O->R)(v1:V)(a2:ByteArray)(s:List O):R:=(lnV v1).bind fun n3=>jL0 (v1) (a2) (n3) (z0) (s)
theorem b_eq (Z:Env) v1 a2 s:ah0 Z 53 [v1,(vS a2)] s=b Z.R Z.D (L0 Z) v1 a2 s:=by kernel_rfl
noncomputable def L0b (_rr:Rec)(_dd:Option V->Rec)(jL0:V->ByteArray->Int->Int->List O->R)(v1:V)(s2:ByteArray)(n3 n4:Int)(s5:List O):R:=bif (decide (n4<n3)) then (ixV 1 v1 n4).bind fun p6=>ck (az2 p6) (ld1 s5 p6 fun c7=>aS c7 fun s8=>bif ((s2).toList==(s8).toList) then retR [(vI n4)] s5 else jL0 (v1) (s2) (n3) ((w6 (n4+z1))) (s5)) else retR [(vI (-1))] s5
theorem ah2 (Z:Env) v1 s2 n3 n4 s5:aj9 Z 53 .body L0P (L0F v1 s2 n3 n4 s5)=L0b Z.R Z.D (L0 Z) v1 s2 n3 n4 s5:=by kernel_rfl
theorem b_of v1 a2 s {o}(h:b RZ.R RZ.D (L0 RZ) v1 a2 s=some o):RZ.R an0 [v1,(vS a2)] s=some o:=ae0 ((b_eq RZ v1 a2 s).trans h)
theorem ag4 v1 s2 n3 n4 s5 {o}(h:L0b RZ.R RZ.D (L0 RZ) v1 s2 n3 n4 s5=some o):L0 RZ v1 s2 n3 n4 s5=some o:=af7 ((ah2 RZ v1 s2 n3 n4 s5).trans h)
end ad4
end Go.Proofs.YtnpjififnhjbbaaDoor.E
