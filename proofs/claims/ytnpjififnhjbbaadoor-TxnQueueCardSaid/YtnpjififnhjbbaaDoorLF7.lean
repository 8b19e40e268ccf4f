/- It is proved of functions that TxnQueue reaches what their evaluation is, in plain words. No condition. -/
import Derived.Test.YtnpjififnhjbbaaDoorLH
set_option maxRecDepth 100000
set_option maxHeartbeats 40000
namespace Go.Proofs.YtnpjififnhjbbaaDoor.E
open Go
namespace ah5
def L0P :List Nat:=[0,1,0,1,1,1]
def L0F (i1 o2:Nat)(v3 v4:V)(n5 n6:Int)(s7:List O):St:=⟨mkT 65 [(0,(vO i1 o2),.no),(5,v3,.no),(27,v4,.no),(28,(vI n5),.no),(29,(vI n6),.no)],mkA 0 [],0,[],s7,[]⟩
noncomputable def L0 (Z:Env):=fun i1 o2 v3 v4 n5 n6 s7=>Z.X 11 .body L0P (L0F i1 o2 v3 v4 n5 n6 s7)
noncomputable def b (rr:Rec)(_dd:Option V->Rec)(jL0:Nat->Nat->V->V->Int->Int->List O->R)(i1 o2:Nat)(a3:Int)(s:List O):R:=cT (rr af8 [(vO i1 o2),(vI a3)] s) (fun v4 s5=>aT v4 fun c6=>aC c6 fun v7 r8=>aC r8 fun v9 r10=>aI v9 fun n11=>aN r10 (bif (n11 !=z0) then retR [(vI n11)] s5 else aO v7 fun i12 o13=>rd1 s5 i12 (o13+4) fun v14=>aI v14 fun n15=>bif (decide (n15>2)) then retR [(vI 9)] s5 else cS (rr as1 [(vO i1 o2),(vI a3)] s5) (fun v16 s17=>(lnV v16).bind fun n18=>jL0 (i1) (o2) (v7) (v16) (n18) (z0) (s17)) panK)) panK
theorem b_eq (Z:Env) i1 o2 a3 s:ah0 Z 11 [(vO i1 o2),(vI a3)] s=b Z.R Z.D (L0 Z) i1 o2 a3 s:=by kernel_rfl
noncomputable def L0b (rr:Rec)(_dd:Option V->Rec)(jL0:Nat->Nat->V->V->Int->Int->List O->R)(i1 o2:Nat)(v3 v4:V)(n5 n6:Int)(s7:List O):R:=bif (decide (n6<n5)) then (ixV 1 v4 n6).bind fun p8=>ck (az2 p8) (ld1 s7 p8 fun c9=>aO c9 fun i10 o11=>rd1 s7 i10 (o11+2) fun v12=>aI v12 fun n13=>cS (rr ae5 [(vO i1 o2),(vI n13)] s7) (fun v14 s15=>aI v14 fun _=>jL0 (i1) (o2) (v3) (v4) (n5) ((w6 (n6+z1))) (s15)) panK) else aO v3 fun i19 o20=>aO v3 fun i21 o22=>rd1 s7 i21 ((o22+0)+0) fun v23=>aL 1 v23 fun m24 e25=>cS (rr ac3 [(vL m24 1 e25)] s7) (fun v26 s27=>ck (V.good v26) (wrO s27 i19 (o20+11) [(v26,(nilB v26))] fun s28=>rd1 s28 i1 (o2+2) fun v29=>ck (V.good v3) ((apS 1 8 s28 (v29,.no) (vL true 1 [v3])).bind fun q30=>ck (V.good q30.1) (wrO q30.2 i1 (o2+2) [(q30.1,(nilB q30.1))] fun s31=>ck (([(vO i1 o2),v3]).all ad2) (as9 (rr ae9 [(vO i1 o2),v3] s31) (fun v32 s33=>aT v32 fun c34=>aN c34 (ck (([(vO i1 o2),v3]).all ad2) (as9 (rr ac4 [(vO i1 o2),v3] s33) (fun v35 s36=>aT v35 fun c37=>aN c37 (retR [(vI 0)] s36)) panK))) panK))))) panK
theorem ah2 (Z:Env) i1 o2 v3 v4 n5 n6 s7:aj9 Z 11 .body L0P (L0F i1 o2 v3 v4 n5 n6 s7)=L0b Z.R Z.D (L0 Z) i1 o2 v3 v4 n5 n6 s7:=by kernel_rfl
theorem b_of i1 o2 a3 s {o}(h:b RZ.R RZ.D (L0 RZ) i1 o2 a3 s=some o):RZ.R ae5 [(vO i1 o2),(vI a3)] s=some o:=ae0 ((b_eq RZ i1 o2 a3 s).trans h)
theorem ag4 i1 o2 v3 v4 n5 n6 s7 {o}(h:L0b RZ.R RZ.D (L0 RZ) i1 o2 v3 v4 n5 n6 s7=some o):L0 RZ i1 o2 v3 v4 n5 n6 s7=some o:=af7 ((ah2 RZ i1 o2 v3 v4 n5 n6 s7).trans h)
end ah5
namespace aj7
def L0P :List Nat:=[0,1,0,1,1]
def L0F (m1:Bool)(e2:List V)(m3:Bool)(e4:List V)(n5 n6:Int):St:=⟨mkT 26 [(0,(vL m1 1 e2),.no),(1,(vL m3 1 e4),.no),(12,(vI n5),.no),(13,(vI n6),.no)],mkA 0 [],0,[],[],[]⟩
noncomputable def L0 (Z:Env):=fun m1 e2 m3 e4 n5 n6=>Z.X 15 .body L0P (L0F m1 e2 m3 e4 n5 n6)
noncomputable def b (_rr:Rec)(_dd:Option V->Rec)(jL0:Bool->List V->Bool->List V->Int->Int->R)(m1:Bool)(l2:List V)(m3:Bool)(l4:List V):R:=bif (((l2).length:Int) !=((l4).length:Int)) then retR [(vB false)] [] else jL0 (m1) (l2) (m3) (l4) (((l2).length:Int)) (z0)
theorem b_eq (Z:Env) m1 l2 m3 l4:ah0 Z 15 [(vL m1 1 l2),(vL m3 1 l4)] []=b Z.R Z.D (L0 Z) m1 l2 m3 l4:=by kernel_rfl
noncomputable def L0b (_rr:Rec)(_dd:Option V->Rec)(jL0:Bool->List V->Bool->List V->Int->Int->R)(m1:Bool)(e2:List V)(m3:Bool)(e4:List V)(n5 n6:Int):R:=bif (decide (n6<n5)) then idxK e2 n6 fun v7=>aC (V.cells v7) fun v8 r9=>aS v8 fun s10=>aN r9 (idxK e4 n6 fun v11=>aC (V.cells v11) fun v12 r13=>aS v12 fun s14=>aN r13 (bif (!((s10).toList==(s14).toList)) then retR [(vB false)] [] else jL0 (m1) (e2) (m3) (e4) (n5) ((w6 (n6+z1))))) else retR [(vB true)] []
theorem ah2 (Z:Env) m1 e2 m3 e4 n5 n6:aj9 Z 15 .body L0P (L0F m1 e2 m3 e4 n5 n6)=L0b Z.R Z.D (L0 Z) m1 e2 m3 e4 n5 n6:=by kernel_rfl
theorem b_of m1 l2 m3 l4 {o}(h:b RZ.R RZ.D (L0 RZ) m1 l2 m3 l4=some o):RZ.R ag9 [(vL m1 1 l2),(vL m3 1 l4)] []=some o:=ae0 ((b_eq RZ m1 l2 m3 l4).trans h)
theorem ag4 m1 e2 m3 e4 n5 n6 {o}(h:L0b RZ.R RZ.D (L0 RZ) m1 e2 m3 e4 n5 n6=some o):L0 RZ m1 e2 m3 e4 n5 n6=some o:=af7 ((ah2 RZ m1 e2 m3 e4 n5 n6).trans h)
end aj7
namespace ab4
def L0P :List Nat:=[0,1,0,1,1]
def L0F (b1:Bool)(v2 v3 v4:V)(n5 n6:Int)(e7 e8 e9:List V)(s10:List O):St:=⟨mkT 61 [(1,(vB b1),.no),(2,v2,.no),(3,v3,.no),(10,(V.loc 0 0),.no),(11,(vO 0 0),.no),(20,v4,.no),(21,(vI n5),.no),(22,(vI n6),.no)],mkA 1 [(0,[((vL false 3 e7),.full),((vL false 0 e8),.full),((vB false),.no),((vB false),.no),((vB false),.no),((vL false 0 e9),.full),((vB false),.no),((vB false),.no)])],0,[],s10,[]⟩
noncomputable def L0 (Z:Env):=fun b1 v2 v3 v4 n5 n6 e7 e8 e9 s10=>Z.X 19 .body L0P (L0F b1 v2 v3 v4 n5 n6 e7 e8 e9 s10)
def J1P :List Nat:=[0,1,0,0,1,1,0,0,1,0,1,1]
def J1F (b1:Bool)(v2 v3 v4:V)(n5 n6:Int)(b7:Bool)(e8 e9 e10:List V)(s11:List O):St:=⟨mkT 61 [(1,(vB b1),.no),(2,v2,.no),(3,v3,.no),(10,(V.loc 0 0),.no),(11,(vO 0 0),.no),(20,v4,.no),(21,(vI n5),.no),(22,(vI n6),.no),(32,(vB b7),.no)],mkA 1 [(0,[((vL false 3 e8),.full),((vL false 0 e9),.full),((vB false),.no),((vB false),.no),((vB false),.no),((vL false 0 e10),.full),((vB false),.no),((vB false),.no)])],0,[],s11,[]⟩
noncomputable def J1 (Z:Env):=fun b1 v2 v3 v4 n5 n6 b7 e8 e9 e10 s11=>Z.X 19 .body J1P (J1F b1 v2 v3 v4 n5 n6 b7 e8 e9 e10 s11)
def J2P :List Nat:=[1,1,0,0,1,1,0,0,1,0,1,1]
def J2F (b1:Bool)(v2 v3 v4:V)(n5 n6:Int)(e7 e8 e9:List V)(s10:List O):St:=⟨mkT 61 [(1,(vB b1),.no),(2,v2,.no),(3,v3,.no),(10,(V.loc 0 0),.no),(11,(vO 0 0),.no),(20,v4,.no),(21,(vI n5),.no),(22,(vI n6),.no)],mkA 1 [(0,[((vL false 3 e7),.full),((vL false 0 e8),.full),((vB false),.no),((vB false),.no),((vB false),.no),((vL false 0 e9),.full),((vB false),.no),((vB false),.no)])],0,[],s10,[]⟩
noncomputable def J2 (Z:Env):=fun b1 v2 v3 v4 n5 n6 e7 e8 e9 s10=>Z.X 19 .body J2P (J2F b1 v2 v3 v4 n5 n6 e7 e8 e9 s10)
def L3P :List Nat:=[0,1,0,1,1,1,1]
def L3F (v1:V)(n2 n3:Int)(e4 e5 e6:List V)(s7:List O):St:=⟨mkT 61 [(10,(V.loc 0 0),.no),(11,(vO 0 0),.no),(38,v1,.no),(39,(vI n2),.no),(40,(vI n3),.no)],mkA 1 [(0,[((vL false 3 e4),.full),((vL false 0 e5),.full),((vB false),.no),((vB false),.no),((vB false),.no),((vL false 0 e6),.full),((vB false),.no),((vB false),.no)])],0,[],s7,[]⟩
noncomputable def L3 (Z:Env):=fun v1 n2 n3 e4 e5 e6 s7=>Z.X 19 .body L3P (L3F v1 n2 n3 e4 e5 e6 s7)
noncomputable def b (_rr:Rec)(_dd:Option V->Rec)(jL0:Bool->V->V->V->Int->Int->List V->List V->List V->List O->R)(a1:Int)(a2:Bool)(v3 v4:V)(m5:Bool)(l6:List V):R:=(lnV v4).bind fun n7=>jL0 (a2) (v3) (v4) (v4) (n7) (z0) ([]) ([]) ([]) ([(O.box [((vL false 3 []),true),((vL false 0 []),true),((vB false),false),((vB false),false),((vB false),false),((vL false 0 []),true),((vB false),false),((vB false),false),((vI a1),false),((vL m5 1 l6),(nilB (vL m5 1 l6))),((vB false),false)])])
theorem b_eq (Z:Env) a1 a2 v3 v4 m5 l6:ah0 Z 19 [(vI a1),(vB a2),v3,v4,(vL m5 1 l6)] []=b Z.R Z.D (L0 Z) a1 a2 v3 v4 m5 l6:=by kernel_rfl
noncomputable def L0b (rr:Rec)(_dd:Option V->Rec)(jJ1:Bool->V->V->V->Int->Int->Bool->List V->List V->List V->List O->R)(jL3:V->Int->Int->List V->List V->List V->List O->R)(b1:Bool)(v2 v3 v4:V)(n5 n6:Int)(e7 e8 e9:List V)(s10:List O):R:=bif (decide (n6<n5)) then (ixV 1 v4 n6).bind fun p11=>ck (az2 p11) (ld1 s10 p11 fun c12=>aS c12 fun s13=>bif b1 then cS (rr ad1 [(vO 0 0),(vI 1),(vS s13)] s10) (fun v14 s15=>aI v14 fun n16=>jJ1 (b1) (v2) (v3) (v4) (n5) (n6) ((n16==(2:Int))) (e7) (e8) (e9) (s15)) panK else jJ1 (b1) (v2) (v3) (v4) (n5) (n6) (false) (e7) (e8) (e9) (s10)) else ck (([(vO 0 0),(vB b1),v2]).all ad2) (as9 (rr ae4 [(vO 0 0),(vB b1),v2] s10) (fun v19 s20=>aT v19 fun c21=>aN c21 ((lnV v3).bind fun n22=>jL3 (v3) (n22) (z0) (e7) (e8) (e9) (s20))) panK)
theorem ah2 (Z:Env) b1 v2 v3 v4 n5 n6 e7 e8 e9 s10:aj9 Z 19 .body L0P (L0F b1 v2 v3 v4 n5 n6 e7 e8 e9 s10)=L0b Z.R Z.D (J1 Z) (L3 Z) b1 v2 v3 v4 n5 n6 e7 e8 e9 s10:=by kernel_rfl
noncomputable def J1b (_rr:Rec)(_dd:Option V->Rec)(jJ2:Bool->V->V->V->Int->Int->List V->List V->List V->List O->R)(b1:Bool)(v2 v3 v4:V)(n5 n6:Int)(b7:Bool)(e8 e9 e10:List V)(s11:List O):R:=bif b7 then jJ2 (false) (v2) (v3) (v4) (n5) (n6) (e8) (e9) (e10) (s11) else jJ2 (b1) (v2) (v3) (v4) (n5) (n6) (e8) (e9) (e10) (s11)
theorem ah3 (Z:Env) b1 v2 v3 v4 n5 n6 b7 e8 e9 e10 s11:ad6 Z 19 .body J1P (J1F b1 v2 v3 v4 n5 n6 b7 e8 e9 e10 s11)=J1b Z.R Z.D (J2 Z) b1 v2 v3 v4 n5 n6 b7 e8 e9 e10 s11:=by kernel_rfl
noncomputable def J2b (_rr:Rec)(_dd:Option V->Rec)(jL0:Bool->V->V->V->Int->Int->List V->List V->List V->List O->R)(b1:Bool)(v2 v3 v4:V)(n5 n6:Int)(e7 e8 e9:List V)(s10:List O):R:=jL0 (b1) (v2) (v3) (v4) (n5) ((w6 (n6+z1))) (e7) (e8) (e9) (s10)
theorem am0 (Z:Env) b1 v2 v3 v4 n5 n6 e7 e8 e9 s10:ad6 Z 19 .body J2P (J2F b1 v2 v3 v4 n5 n6 e7 e8 e9 s10)=J2b Z.R Z.D (L0 Z) b1 v2 v3 v4 n5 n6 e7 e8 e9 s10:=by kernel_rfl
noncomputable def L3b (rr:Rec)(_dd:Option V->Rec)(jL3:V->Int->Int->List V->List V->List V->List O->R)(v1:V)(n2 n3:Int)(e4 e5 e6:List V)(s7:List O):R:=bif (decide (n3<n2)) then (ixV 1 v1 n3).bind fun p8=>ck (az2 p8) (ld1 s7 p8 fun c9=>aS c9 fun s10=>cS (rr ad1 [(vO 0 0),(vI 7),(vS s10)] s7) (fun v11 s12=>aI v11 fun _=>jL3 (v1) (n2) ((w6 (n3+z1))) (e4) (e5) (e6) (s12)) panK) else rd1 s7 0 10 fun v16=>aB v16 fun b17=>wrO s7 0 6 [((vB (!b17)),false)] fun s18=>rdN s18 0 0 8 fun c19=>ay6 c19 (aA (vA c19) fun c20=>aC c20 fun v21 r22=>aL 3 v21 fun m23 e24=>aC r22 fun v25 r26=>aC r26 fun v27 r28=>aB v27 fun b29=>aC r28 fun v30 r31=>aB v30 fun b32=>aC r31 fun v33 r34=>aB v33 fun b35=>aC r34 fun v36 r37=>aC r37 fun v38 r39=>aB v38 fun b40=>aC r39 fun v41 r42=>aB v41 fun b43=>aN r42 (ck (([(vL m23 3 e24),v25,(vB b29),(vB b32),(vB b35),v36,(vB b40),(vB b43)]).length==8&&ac5 [(vL m23 3 e24),v25,(vB b29),(vB b32),(vB b35),v36,(vB b40),(vB b43)]&&8 !=0) (ck (ac5 [(vL m23 3 e24),v25,(vB b29),(vB b32),(vB b35),v36,(vB b40),(vB b43)]) (retR [(vA [(vL m23 3 e24),v25,(vB b29),(vB b32),(vB b35),v36,(vB b40),(vB b43)])] s18))))
theorem bn5 (Z:Env) v1 n2 n3 e4 e5 e6 s7:aj9 Z 19 .body L3P (L3F v1 n2 n3 e4 e5 e6 s7)=L3b Z.R Z.D (L3 Z) v1 n2 n3 e4 e5 e6 s7:=by kernel_rfl
theorem b_of a1 a2 v3 v4 m5 l6 {o}(h:b RZ.R RZ.D (L0 RZ) a1 a2 v3 v4 m5 l6=some o):RZ.R au5 [(vI a1),(vB a2),v3,v4,(vL m5 1 l6)] []=some o:=ae0 ((b_eq RZ a1 a2 v3 v4 m5 l6).trans h)
theorem ag4 b1 v2 v3 v4 n5 n6 e7 e8 e9 s10 {o}(h:L0b RZ.R RZ.D (J1 RZ) (L3 RZ) b1 v2 v3 v4 n5 n6 e7 e8 e9 s10=some o):L0 RZ b1 v2 v3 v4 n5 n6 e7 e8 e9 s10=some o:=af7 ((ah2 RZ b1 v2 v3 v4 n5 n6 e7 e8 e9 s10).trans h)
theorem ak6 b1 v2 v3 v4 n5 n6 b7 e8 e9 e10 s11 {o}(h:J1b RZ.R RZ.D (J2 RZ) b1 v2 v3 v4 n5 n6 b7 e8 e9 e10 s11=some o):J1 RZ b1 v2 v3 v4 n5 n6 b7 e8 e9 e10 s11=some o:=ac1 (by kernel_rfl) ((ah3 RZ b1 v2 v3 v4 n5 n6 b7 e8 e9 e10 s11).trans h)
theorem ar1 b1 v2 v3 v4 n5 n6 e7 e8 e9 s10 {o}(h:J2b RZ.R RZ.D (L0 RZ) b1 v2 v3 v4 n5 n6 e7 e8 e9 s10=some o):J2 RZ b1 v2 v3 v4 n5 n6 e7 e8 e9 s10=some o:=ac1 (by kernel_rfl) ((am0 RZ b1 v2 v3 v4 n5 n6 e7 e8 e9 s10).trans h)
theorem aP1 v1 n2 n3 e4 e5 e6 s7 {o}(h:L3b RZ.R RZ.D (L3 RZ) v1 n2 n3 e4 e5 e6 s7=some o):L3 RZ v1 n2 n3 e4 e5 e6 s7=some o:=af7 ((bn5 RZ v1 n2 n3 e4 e5 e6 s7).trans h)
end ab4
namespace ax5
end ax5
namespace aa6
def L0P :List Nat:=[0,1,0,1]
def L0F (i1 o2 i3 o4:Nat)(b5:Bool)(s6:List O):St:=⟨mkT 54 [(0,(vO i1 o2),.no),(3,(vR [(vO i3 o4)]),.no),(4,(vB b5),.no)],mkA 0 [],0,[],s6,[]⟩
noncomputable def L0 (Z:Env):=fun i1 o2 i3 o4 b5 s6=>Z.X 30 .body L0P (L0F i1 o2 i3 o4 b5 s6)
def J1P :List Nat:=[0,0,0,0,1,0,1]
def J1F (i1 o2 i3 o4:Nat)(b5:Bool)(s6:List O):St:=⟨mkT 54 [(0,(vO i1 o2),.no),(3,(vR [(vO i3 o4)]),.no),(15,(vB b5),.no)],mkA 0 [],0,[],s6,[]⟩
noncomputable def J1 (Z:Env):=fun i1 o2 i3 o4 b5 s6=>Z.X 30 .body J1P (J1F i1 o2 i3 o4 b5 s6)
def J2P :List Nat:=[1,0,1,0,0,1,0,1]
def J2F (i1 o2 i3 o4:Nat)(b5:Bool)(s6:List O):St:=⟨mkT 54 [(0,(vO i1 o2),.no),(3,(vR [(vO i3 o4)]),.no),(4,(vB b5),.no)],mkA 0 [],0,[],s6,[]⟩
noncomputable def J2 (Z:Env):=fun i1 o2 i3 o4 b5 s6=>Z.X 30 .body J2P (J2F i1 o2 i3 o4 b5 s6)
def J3P :List Nat:=[0,1,1]
def J3F (i1 o2 i3 o4:Nat)(b5:Bool)(s6:List O):St:=⟨mkT 54 [(0,(vO i1 o2),.no),(3,(vR [(vO i3 o4)]),.no),(44,(vB b5),.no)],mkA 0 [],0,[],s6,[]⟩
noncomputable def J3 (Z:Env):=fun i1 o2 i3 o4 b5 s6=>Z.X 30 .body J3P (J3F i1 o2 i3 o4 b5 s6)
def J4P :List Nat:=[1,1,1]
def J4F (s1:List O):St:=⟨mkT 54 [],mkA 0 [],0,[],s1,[]⟩
noncomputable def J4 (Z:Env):=fun s1=>Z.X 30 .body J4P (J4F s1)
noncomputable def b (_rr:Rec)(_dd:Option V->Rec)(jL0:Nat->Nat->Nat->Nat->Bool->List O->R)(i1 o2 i3 o4:Nat)(s:List O):R:=jL0 (i1) (o2) (i3) (o4) (true) (s)
theorem b_eq (Z:Env) i1 o2 i3 o4 s:ah0 Z 30 [(vO i1 o2),(vO i3 o4)] s=b Z.R Z.D (L0 Z) i1 o2 i3 o4 s:=by kernel_rfl
noncomputable def L0b (_rr:Rec)(_dd:Option V->Rec)(jJ1:Nat->Nat->Nat->Nat->Bool->List O->R)(i1 o2 i3 o4:Nat)(b5:Bool)(s6:List O):R:=bif b5 then rd1 s6 i3 (o4+9) fun v7=>aL 2 v7 fun _ e9=>jJ1 (i1) (o2) (i3) (o4) ((((e9).length:Int)==z0)) (s6) else jJ1 (i1) (o2) (i3) (o4) (false) (s6)
theorem ah2 (Z:Env) i1 o2 i3 o4 b5 s6:aj9 Z 30 .body L0P (L0F i1 o2 i3 o4 b5 s6)=L0b Z.R Z.D (J1 Z) i1 o2 i3 o4 b5 s6:=by kernel_rfl
noncomputable def J1b (rr:Rec)(_dd:Option V->Rec)(jJ2:Nat->Nat->Nat->Nat->Bool->List O->R)(jJ3:Nat->Nat->Nat->Nat->Bool->List O->R)(i1 o2 i3 o4:Nat)(b5:Bool)(s6:List O):R:=bif b5 then as4 [(cS (rr aC8 [] s6) (fun v7 s8=>aM2 v7 fun i9=>rd1 s8 i3 (o4+4) fun v10=>aI v10 fun n11=>mapK s8 i9 fun e12 _=>ar6 (vI n11) e12 fun r14=>bif (r14).isSome then aD5 rr ((r14).getD V.nilfunc) [(vO i1 o2),(vO i3 o4)] s8 (fun v15 s16=>aB v15 fun b17=>jJ2 (i1) (o2) (i3) (o4) (b17) (s16)) panK else jJ2 (i1) (o2) (i3) (o4) (false) (s8)) (fun _ _=>none)),(rd1 s6 i3 (o4+4) fun v22=>aI v22 fun n23=>cS (rr aC8 [] s6) (fun v24 s25=>aM2 v24 fun i26=>mapK s25 i26 fun e27 _=>ar6 (vI n23) e27 fun r29=>bif (r29).isSome then aD5 rr ((r29).getD V.nilfunc) [(vO i1 o2),(vO i3 o4)] s25 (fun v30 s31=>aB v30 fun b32=>jJ2 (i1) (o2) (i3) (o4) (b32) (s31)) panK else jJ2 (i1) (o2) (i3) (o4) (false) (s25)) (fun _ _=>none))] else rd1 s6 i3 (o4+4) fun v37=>aI v37 fun n38=>bif (decide (n38>=6)) then rd1 s6 i3 (o4+9) fun v39=>aL 2 v39 fun _ e41=>jJ3 (i1) (o2) (i3) (o4) ((((e41).length:Int)==z0)) (s6) else jJ3 (i1) (o2) (i3) (o4) (false) (s6)
theorem ah3 (Z:Env) i1 o2 i3 o4 b5 s6:ad6 Z 30 .body J1P (J1F i1 o2 i3 o4 b5 s6)=J1b Z.R Z.D (J2 Z) (J3 Z) i1 o2 i3 o4 b5 s6:=by kernel_rfl
noncomputable def J2b (_rr:Rec)(_dd:Option V->Rec)(jL0:Nat->Nat->Nat->Nat->Bool->List O->R)(i1 o2 i3 o4:Nat)(b5:Bool)(s6:List O):R:=jL0 (i1) (o2) (i3) (o4) (b5) (s6)
theorem am0 (Z:Env) i1 o2 i3 o4 b5 s6:ad6 Z 30 .body J2P (J2F i1 o2 i3 o4 b5 s6)=J2b Z.R Z.D (L0 Z) i1 o2 i3 o4 b5 s6:=by kernel_rfl
noncomputable def J3b (rr:Rec)(_dd:Option V->Rec)(jJ4:List O->R)(i1 o2 i3 o4:Nat)(b5:Bool)(s6:List O):R:=bif b5 then rd1 s6 i1 (o2+2) fun v7=>ck (([v7,(V.func (.func 44) [] [(vR [(vO i3 o4)])])]).all ad2) (cS (rr ae1 [v7,(V.func (.func 44) [] [(vR [(vO i3 o4)])])] s6) (fun v8 s9=>ck (V.good v8) (wrO s9 i1 (o2+2) [(v8,(nilB v8))] fun s10=>jJ4 (s10))) panK) else jJ4 (s6)
theorem ax0 (Z:Env) i1 o2 i3 o4 b5 s6:ad6 Z 30 .body J3P (J3F i1 o2 i3 o4 b5 s6)=J3b Z.R Z.D (J4 Z) i1 o2 i3 o4 b5 s6:=by kernel_rfl
noncomputable def J4b (_rr:Rec)(_dd:Option V->Rec)(s1:List O):R:=retR [] s1
theorem aB0 (Z:Env) s1:ad6 Z 30 .body J4P (J4F s1)=J4b Z.R Z.D s1:=by kernel_rfl
theorem b_of i1 o2 i3 o4 s {o}(h:b RZ.R RZ.D (L0 RZ) i1 o2 i3 o4 s=some o):RZ.R ac4 [(vO i1 o2),(vO i3 o4)] s=some o:=ae0 ((b_eq RZ i1 o2 i3 o4 s).trans h)
theorem ag4 i1 o2 i3 o4 b5 s6 {o}(h:L0b RZ.R RZ.D (J1 RZ) i1 o2 i3 o4 b5 s6=some o):L0 RZ i1 o2 i3 o4 b5 s6=some o:=af7 ((ah2 RZ i1 o2 i3 o4 b5 s6).trans h)
theorem ak6 i1 o2 i3 o4 b5 s6 {o}(h:J1b RZ.R RZ.D (J2 RZ) (J3 RZ) i1 o2 i3 o4 b5 s6=some o):J1 RZ i1 o2 i3 o4 b5 s6=some o:=ac1 (by kernel_rfl) ((ah3 RZ i1 o2 i3 o4 b5 s6).trans h)
theorem ar1 i1 o2 i3 o4 b5 s6 {o}(h:J2b RZ.R RZ.D (L0 RZ) i1 o2 i3 o4 b5 s6=some o):J2 RZ i1 o2 i3 o4 b5 s6=some o:=ac1 (by kernel_rfl) ((am0 RZ i1 o2 i3 o4 b5 s6).trans h)
theorem aB4 i1 o2 i3 o4 b5 s6 {o}(h:J3b RZ.R RZ.D (J4 RZ) i1 o2 i3 o4 b5 s6=some o):J3 RZ i1 o2 i3 o4 b5 s6=some o:=ac1 (by kernel_rfl) ((ax0 RZ i1 o2 i3 o4 b5 s6).trans h)
theorem aH9 s1 {o}(h:J4b RZ.R RZ.D s1=some o):J4 RZ s1=some o:=ac1 (by kernel_rfl) ((aB0 RZ s1).trans h)
end aa6
namespace bd8
noncomputable def b (_rr:Rec)(_dd:Option V->Rec)(s:List O):R:=retR [(vA [(vI 2),(V.func (.func 45) [] []),(vI 4),(V.func (.func 46) [] []),(vI 5),(V.func (.func 47) [] []),(vI 5),(V.func (.func 47) [] []),(vI 5),(V.func (.func 48) [] []),(vI 2),(V.func (.func 49) [] []),(vI 1),(V.func (.func 50) [] [])])] s
theorem b_eq (Z:Env) s:ah0 Z 34 [] s=b Z.R Z.D s:=by kernel_rfl
theorem b_of s {o}(h:b RZ.R RZ.D s=some o):RZ.R as0 [] s=some o:=ae0 ((b_eq RZ s).trans h)
end bd8
namespace ah1
def L0P :List Nat:=[0,1,0,1]
def L0F (s1:ByteArray)(n2 n3:Int):St:=⟨mkT 46 [(0,(vS s1),.no),(6,(vI n2),.no),(7,(vI n3),.no)],mkA 0 [],0,[],[],[]⟩
noncomputable def L0 (Z:Env):=fun s1 n2 n3=>Z.X 35 .body L0P (L0F s1 n2 n3)
def J1P :List Nat:=[0,1,0,0,1,1,0,0,1,0,1]
def J1F (s1:ByteArray)(n2:Int)(b3:Bool)(n4 n5:Int):St:=⟨mkT 46 [(0,(vS s1),.no),(3,(vI n2),.no),(4,(vB b3),.no),(6,(vI n4),.no),(7,(vI n5),.no)],mkA 0 [],0,[],[],[]⟩
noncomputable def J1 (Z:Env):=fun s1 n2 b3 n4 n5=>Z.X 35 .body J1P (J1F s1 n2 b3 n4 n5)
def J2P :List Nat:=[0,1,1,0,0,1,1,0,0,1,0,1]
def J2F (s1:ByteArray)(n2 n3:Int)(b4:Bool):St:=⟨mkT 46 [(0,(vS s1),.no),(6,(vI n2),.no),(7,(vI n3),.no),(37,(vB b4),.no)],mkA 0 [],0,[],[],[]⟩
noncomputable def J2 (Z:Env):=fun s1 n2 n3 b4=>Z.X 35 .body J2P (J2F s1 n2 n3 b4)
def J3P :List Nat:=[0,1,1]
def J3F (b1:Bool):St:=⟨mkT 46 [(2,(vB b1),.no)],mkA 0 [],0,[],[],[]⟩
noncomputable def J3 (Z:Env):=fun b1=>Z.X 35 .body J3P (J3F b1)
noncomputable def b (_rr:Rec)(_dd:Option V->Rec)(jL0:ByteArray->Int->Int->R)(a1:ByteArray):R:=jL0 (a1) (((a1).size:Int)) (z0)
theorem b_eq (Z:Env) a1:ah0 Z 35 [(vS a1)] []=b Z.R Z.D (L0 Z) a1:=by kernel_rfl
noncomputable def L0b (_rr:Rec)(_dd:Option V->Rec)(jJ1:ByteArray->Int->Bool->Int->Int->R)(jJ3:Bool->R)(s1:ByteArray)(n2 n3:Int):R:=bif (decide (n3<n2)) then bc8 s1 n3 fun n4=>bif (decide (n4>=97)) then bc8 s1 n3 fun n5=>jJ1 (s1) (n3) ((decide (n5<=122))) (n2) (n3) else jJ1 (s1) (n3) (false) (n2) (n3) else bif (!((s1).toList==((⟨#[]⟩:ByteArray)).toList)) then jJ3 ((decide (((s1).size:Int)<=32))) else jJ3 (false)
theorem ah2 (Z:Env) s1 n2 n3:aj9 Z 35 .body L0P (L0F s1 n2 n3)=L0b Z.R Z.D (J1 Z) (J3 Z) s1 n2 n3:=by kernel_rfl
noncomputable def J1b (_rr:Rec)(_dd:Option V->Rec)(jJ2:ByteArray->Int->Int->Bool->R)(s1:ByteArray)(n2:Int)(b3:Bool)(n4 n5:Int):R:=bif (!b3) then bif (n2==z0) then jJ2 (s1) (n4) (n5) (true) else bc8 s1 n2 fun n6=>bif (decide (n6<48)) then jJ2 (s1) (n4) (n5) (true) else bc8 s1 n2 fun n7=>jJ2 (s1) (n4) (n5) ((decide (n7>57))) else jJ2 (s1) (n4) (n5) (false)
theorem ah3 (Z:Env) s1 n2 b3 n4 n5:ad6 Z 35 .body J1P (J1F s1 n2 b3 n4 n5)=J1b Z.R Z.D (J2 Z) s1 n2 b3 n4 n5:=by kernel_rfl
noncomputable def J2b (_rr:Rec)(_dd:Option V->Rec)(jL0:ByteArray->Int->Int->R)(s1:ByteArray)(n2 n3:Int)(b4:Bool):R:=bif b4 then retR [(vB false)] [] else jL0 (s1) (n2) ((w6 (n3+z1)))
theorem am0 (Z:Env) s1 n2 n3 b4:ad6 Z 35 .body J2P (J2F s1 n2 n3 b4)=J2b Z.R Z.D (L0 Z) s1 n2 n3 b4:=by kernel_rfl
noncomputable def J3b (_rr:Rec)(_dd:Option V->Rec)(b1:Bool):R:=retR [(vB b1)] []
theorem ax0 (Z:Env) b1:ad6 Z 35 .body J3P (J3F b1)=J3b Z.R Z.D b1:=by kernel_rfl
theorem b_of a1 {o}(h:b RZ.R RZ.D (L0 RZ) a1=some o):RZ.R aN1 [(vS a1)] []=some o:=ae0 ((b_eq RZ a1).trans h)
theorem ag4 s1 n2 n3 {o}(h:L0b RZ.R RZ.D (J1 RZ) (J3 RZ) s1 n2 n3=some o):L0 RZ s1 n2 n3=some o:=af7 ((ah2 RZ s1 n2 n3).trans h)
theorem ak6 s1 n2 b3 n4 n5 {o}(h:J1b RZ.R RZ.D (J2 RZ) s1 n2 b3 n4 n5=some o):J1 RZ s1 n2 b3 n4 n5=some o:=ac1 (by kernel_rfl) ((ah3 RZ s1 n2 b3 n4 n5).trans h)
theorem ar1 s1 n2 n3 b4 {o}(h:J2b RZ.R RZ.D (L0 RZ) s1 n2 n3 b4=some o):J2 RZ s1 n2 n3 b4=some o:=ac1 (by kernel_rfl) ((am0 RZ s1 n2 n3 b4).trans h)
theorem aB4 b1 {o}(h:J3b RZ.R RZ.D b1=some o):J3 RZ b1=some o:=ac1 (by kernel_rfl) ((ax0 RZ b1).trans h)
end ah1
namespace aK1
noncomputable def b (_rr:Rec)(_dd:Option V->Rec)(s:List O):R:=mapK (s++[O.map [] 0]) (s).length fun e1 c2=>putK (vI 3) (V.func (.func 54) [] []) e1 fun e3=>mapK (((s++[O.map [] 0])).set (s).length (O.map e3 (if (e3).length=(e1).length then c2 else c2+1))) (s).length fun e4 c5=>putK (vI 4) (V.func (.func 55) [] []) e4 fun e6=>mapK (((((s++[O.map [] 0])).set (s).length (O.map e3 (if (e3).length=(e1).length then c2 else c2+1)))).set (s).length (O.map e6 (if (e6).length=(e4).length then c5 else c5+1))) (s).length fun e7 c8=>putK (vI 5) (V.func (.func 55) [] []) e7 fun e9=>retR [(V.map (s).length)] (((((((s++[O.map [] 0])).set (s).length (O.map e3 (if (e3).length=(e1).length then c2 else c2+1)))).set (s).length (O.map e6 (if (e6).length=(e4).length then c5 else c5+1)))).set (s).length (O.map e9 (if (e9).length=(e7).length then c8 else c8+1)))
theorem b_eq (Z:Env) s:ah0 Z 42 [] s=b Z.R Z.D s:=by kernel_rfl
theorem b_of s {o}(h:b RZ.R RZ.D s=some o):RZ.R aC8 [] s=some o:=ae0 ((b_eq RZ s).trans h)
end aK1
namespace ab0
def J0P :List Nat:=[1,0,0,1,0,1]
def J0F (i1 o2:Nat)(n3 n4:Int)(s5:ByteArray)(n6:Int)(b7:Bool)(s8:List O):St:=⟨mkT 44 [(1,(vO i1 o2),.no),(3,(vI n3),.no),(6,(vR [(vI n4),(vS s5)]),.no),(8,(vI n6),.no),(9,(vB b7),.no)],mkA 0 [],0,[],s8,[]⟩
noncomputable def J0 (Z:Env):=fun i1 o2 n3 n4 s5 n6 b7 s8=>Z.X 47 .body J0P (J0F i1 o2 n3 n4 s5 n6 b7 s8)
def J1P :List Nat:=[1,0,1,0,1]
def J1F (i1 o2:Nat)(n3 n4:Int)(s5:ByteArray)(v6 v7:V)(s8:List O):St:=⟨mkT 44 [(1,(vO i1 o2),.no),(3,(vI n3),.no),(6,(vR [(vI n4),(vS s5)]),.no),(8,v6,.no),(9,v7,.no)],mkA 0 [],0,[],s8,[]⟩
noncomputable def J1 (Z:Env):=fun i1 o2 n3 n4 s5 v6 v7 s8=>Z.X 47 .body J1P (J1F i1 o2 n3 n4 s5 v6 v7 s8)
def J2P :List Nat:=[0,1,1]
def J2F (i1 o2:Nat)(n3:Int)(s4:ByteArray)(v5 v6:V)(b7:Bool)(s8:List O):St:=⟨mkT 44 [(1,(vO i1 o2),.no),(6,(vR [(vI n3),(vS s4)]),.no),(8,v5,.no),(9,v6,.no),(32,(vB b7),.no)],mkA 0 [],0,[],s8,[]⟩
noncomputable def J2 (Z:Env):=fun i1 o2 n3 s4 v5 v6 b7 s8=>Z.X 47 .body J2P (J2F i1 o2 n3 s4 v5 v6 b7 s8)
def J3P :List Nat:=[1,1,1]
def J3F (v1 v2:V)(s3:List O):St:=⟨mkT 44 [(8,v1,.no),(9,v2,.no)],mkA 0 [],0,[],s3,[]⟩
noncomputable def J3 (Z:Env):=fun v1 v2 s3=>Z.X 47 .body J3P (J3F v1 v2 s3)
def J4P :List Nat:=[1,1,1,0,1,0,1]
def J4F (i1 o2:Nat)(n3 n4:Int)(s5:ByteArray)(s6:List O):St:=⟨mkT 44 [(1,(vO i1 o2),.no),(3,(vI n3),.no),(6,(vR [(vI n4),(vS s5)]),.no)],mkA 0 [],0,[],s6,[]⟩
noncomputable def J4 (Z:Env):=fun i1 o2 n3 n4 s5 s6=>Z.X 47 .body J4P (J4F i1 o2 n3 n4 s5 s6)
def J5P :List Nat:=[1,1,1,1,1,0,1,0,1]
def J5F (i1 o2:Nat)(n3 n4:Int)(s5:ByteArray)(s6:List O):St:=⟨mkT 44 [(1,(vO i1 o2),.no),(3,(vI n3),.no),(6,(vR [(vI n4),(vS s5)]),.no)],mkA 0 [],0,[],s6,[]⟩
noncomputable def J5 (Z:Env):=fun i1 o2 n3 n4 s5 s6=>Z.X 47 .body J5P (J5F i1 o2 n3 n4 s5 s6)
noncomputable def b (_rr:Rec)(_dd:Option V->Rec)(jJ0:Nat->Nat->Int->Int->ByteArray->Int->Bool->List O->R)(_i1 _o2 i3 o4:Nat)(a5:Int)(a6:ByteArray)(a7:Int)(s:List O):R:=bif (a7==(2:Int)) then jJ0 (i3) (o4) (a7) (a5) (a6) (a7) ((a7==(2:Int))) (s) else jJ0 (i3) (o4) (a7) (a5) (a6) (a7) ((a7==(3:Int))) (s)
theorem b_eq (Z:Env) i1 o2 i3 o4 a5 a6 a7 s:ah0 Z 47 [(vO i1 o2),(vO i3 o4),(vA [(vI a5),(vS a6)]),(vI a7)] s=b Z.R Z.D (J0 Z) i1 o2 i3 o4 a5 a6 a7 s:=by kernel_rfl
noncomputable def J0b (rr:Rec)(_dd:Option V->Rec)(jJ1:Nat->Nat->Int->Int->ByteArray->V->V->List O->R)(jJ4:Nat->Nat->Int->Int->ByteArray->List O->R)(jJ5:Nat->Nat->Int->Int->ByteArray->List O->R)(i1 o2:Nat)(n3 n4:Int)(s5:ByteArray)(n6:Int)(b7:Bool)(s8:List O):R:=bif b7 then wrO s8 i1 ((o2+5)+1) [((vB true),false)] fun s9=>jJ1 (i1) (o2) (n3) (n4) (s5) ((vI n6)) ((vB b7)) (s9) else bif (n6==(4:Int)) then wrO s8 i1 ((o2+5)+2) [((vB true),false)] fun s10=>jJ4 (i1) (o2) (n3) (n4) (s5) (s10) else bif (n6==(5:Int)) then as9 (rr ak3 [(vO i1 o2),(vA [(vI n4),(vS s5)])] s8) (fun v11 s12=>aT v11 fun c13=>aN c13 (jJ5 (i1) (o2) (n3) (n4) (s5) (s12))) panK else jJ5 (i1) (o2) (n3) (n4) (s5) (s8)
theorem ak2 (Z:Env) i1 o2 n3 n4 s5 n6 b7 s8:ad6 Z 47 .body J0P (J0F i1 o2 n3 n4 s5 n6 b7 s8)=J0b Z.R Z.D (J1 Z) (J4 Z) (J5 Z) i1 o2 n3 n4 s5 n6 b7 s8:=by kernel_rfl
noncomputable def J1b (_rr:Rec)(_dd:Option V->Rec)(jJ2:Nat->Nat->Int->ByteArray->V->V->Bool->List O->R)(i1 o2:Nat)(n3 n4:Int)(s5:ByteArray)(v6 v7:V)(s8:List O):R:=bif (decide (n3>=2)) then jJ2 (i1) (o2) (n4) (s5) (v6) (v7) ((decide (n3<=4))) (s8) else jJ2 (i1) (o2) (n4) (s5) (v6) (v7) (false) (s8)
theorem ah3 (Z:Env) i1 o2 n3 n4 s5 v6 v7 s8:ad6 Z 47 .body J1P (J1F i1 o2 n3 n4 s5 v6 v7 s8)=J1b Z.R Z.D (J2 Z) i1 o2 n3 n4 s5 v6 v7 s8:=by kernel_rfl
noncomputable def J2b (_rr:Rec)(_dd:Option V->Rec)(jJ3:V->V->List O->R)(i1 o2:Nat)(_n3:Int)(s4:ByteArray)(v5 v6:V)(b7:Bool)(s8:List O):R:=bif b7 then rdT s8 i1 (o2+12) (fun v9=>aL 1 v9 fun m10 e11=>apK e11 [(vS s4)] 16 (ck (!m10) (wrO s8 i1 (o2+12) [((vL true 1 (e11++[(vS s4)])),true)] fun s12=>jJ3 (v5) (v6) (s12)))) (fun v9 s13=>aL 1 v9 fun m14 e15=>apK e15 [(vS s4)] 16 (wrO s13 i1 (o2+12) [((vL (m14||!([(vS s4)]).isEmpty) 1 (e15++[(vS s4)])),true)] fun s16=>jJ3 (v5) (v6) (s16))) else jJ3 (v5) (v6) (s8)
theorem am0 (Z:Env) i1 o2 n3 s4 v5 v6 b7 s8:ad6 Z 47 .body J2P (J2F i1 o2 n3 s4 v5 v6 b7 s8)=J2b Z.R Z.D (J3 Z) i1 o2 n3 s4 v5 v6 b7 s8:=by kernel_rfl
noncomputable def J3b (_rr:Rec)(_dd:Option V->Rec)(_v1 _v2:V)(s3:List O):R:=retR [] s3
theorem ax0 (Z:Env) v1 v2 s3:ad6 Z 47 .body J3P (J3F v1 v2 s3)=J3b Z.R Z.D v1 v2 s3:=by kernel_rfl
noncomputable def J4b (_rr:Rec)(_dd:Option V->Rec)(jJ1:Nat->Nat->Int->Int->ByteArray->V->V->List O->R)(i1 o2:Nat)(n3 n4:Int)(s5:ByteArray)(s6:List O):R:=jJ1 (i1) (o2) (n3) (n4) (s5) (vN) (vN) (s6)
theorem aB0 (Z:Env) i1 o2 n3 n4 s5 s6:ad6 Z 47 .body J4P (J4F i1 o2 n3 n4 s5 s6)=J4b Z.R Z.D (J1 Z) i1 o2 n3 n4 s5 s6:=by kernel_rfl
noncomputable def J5b (_rr:Rec)(_dd:Option V->Rec)(jJ4:Nat->Nat->Int->Int->ByteArray->List O->R)(i1 o2:Nat)(n3 n4:Int)(s5:ByteArray)(s6:List O):R:=jJ4 (i1) (o2) (n3) (n4) (s5) (s6)
theorem aN3 (Z:Env) i1 o2 n3 n4 s5 s6:ad6 Z 47 .body J5P (J5F i1 o2 n3 n4 s5 s6)=J5b Z.R Z.D (J4 Z) i1 o2 n3 n4 s5 s6:=by kernel_rfl
theorem b_of i1 o2 i3 o4 a5 a6 a7 s {o}(h:b RZ.R RZ.D (J0 RZ) i1 o2 i3 o4 a5 a6 a7 s=some o):RZ.R au4 [(vO i1 o2),(vO i3 o4),(vA [(vI a5),(vS a6)]),(vI a7)] s=some o:=ae0 ((b_eq RZ i1 o2 i3 o4 a5 a6 a7 s).trans h)
theorem am9 i1 o2 n3 n4 s5 n6 b7 s8 {o}(h:J0b RZ.R RZ.D (J1 RZ) (J4 RZ) (J5 RZ) i1 o2 n3 n4 s5 n6 b7 s8=some o):J0 RZ i1 o2 n3 n4 s5 n6 b7 s8=some o:=ac1 (by kernel_rfl) ((ak2 RZ i1 o2 n3 n4 s5 n6 b7 s8).trans h)
theorem ak6 i1 o2 n3 n4 s5 v6 v7 s8 {o}(h:J1b RZ.R RZ.D (J2 RZ) i1 o2 n3 n4 s5 v6 v7 s8=some o):J1 RZ i1 o2 n3 n4 s5 v6 v7 s8=some o:=ac1 (by kernel_rfl) ((ah3 RZ i1 o2 n3 n4 s5 v6 v7 s8).trans h)
theorem ar1 i1 o2 n3 s4 v5 v6 b7 s8 {o}(h:J2b RZ.R RZ.D (J3 RZ) i1 o2 n3 s4 v5 v6 b7 s8=some o):J2 RZ i1 o2 n3 s4 v5 v6 b7 s8=some o:=ac1 (by kernel_rfl) ((am0 RZ i1 o2 n3 s4 v5 v6 b7 s8).trans h)
theorem aB4 v1 v2 s3 {o}(h:J3b RZ.R RZ.D v1 v2 s3=some o):J3 RZ v1 v2 s3=some o:=ac1 (by kernel_rfl) ((ax0 RZ v1 v2 s3).trans h)
theorem aH9 i1 o2 n3 n4 s5 s6 {o}(h:J4b RZ.R RZ.D (J1 RZ) i1 o2 n3 n4 s5 s6=some o):J4 RZ i1 o2 n3 n4 s5 s6=some o:=ac1 (by kernel_rfl) ((aB0 RZ i1 o2 n3 n4 s5 s6).trans h)
theorem aY9 i1 o2 n3 n4 s5 s6 {o}(h:J5b RZ.R RZ.D (J4 RZ) i1 o2 n3 n4 s5 s6=some o):J5 RZ i1 o2 n3 n4 s5 s6=some o:=ac1 (by kernel_rfl) ((aN3 RZ i1 o2 n3 n4 s5 s6).trans h)
end ab0
end Go.Proofs.YtnpjififnhjbbaaDoor.E
