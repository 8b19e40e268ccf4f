/- It is proved of functions that TxnQueue reaches what their evaluation is, in plain words. No condition. -/
import Derived.Test.YtnpjififnhjbbaaDoorLH
set_option maxRecDepth 100000
set_option maxHeartbeats 40000
namespace Go.Proofs.YtnpjififnhjbbaaDoor.E
open Go
namespace ac7
def J0P :List Nat:=[0,1,1,0,0,1,1]
def J0F (i1 o2:Nat)(n3:Int)(v4:V)(b5:Bool)(s6:List O):St:=⟨mkT 88 [(0,(vO i1 o2),.no),(1,(vI n3),.no),(5,v4,.no),(19,(vB b5),.no)],mkA 0 [],0,[],s6,[]⟩
noncomputable def J0 (Z:Env):=fun i1 o2 n3 v4 b5 s6=>Z.X 10 .body J0P (J0F i1 o2 n3 v4 b5 s6)
def L1P :List Nat:=[0,1,0,1,1,1,1]
def L1F (i1 o2:Nat)(v3:V)(m4:Bool)(e5:List V)(n6 n7:Int)(s8:List O):St:=⟨mkT 88 [(0,(vO i1 o2),.no),(5,v3,.no),(57,(vL m4 1 e5),.no),(58,(vI n6),.no),(59,(vI n7),.no)],mkA 0 [],0,[],s8,[]⟩
noncomputable def L1 (Z:Env):=fun i1 o2 v3 m4 e5 n6 n7 s8=>Z.X 10 .body L1P (L1F i1 o2 v3 m4 e5 n6 n7 s8)
def J2P :List Nat:=[0,1,1,0,0,1,0,1,1,1,1]
def J2F (i1 o2:Nat)(v3:V)(m4:Bool)(e5:List V)(n6 n7:Int)(s8:List O):St:=⟨mkT 88 [(0,(vO i1 o2),.no),(5,v3,.no),(57,(vL m4 1 e5),.no),(58,(vI n6),.no),(59,(vI n7),.no)],mkA 0 [],0,[],s8,[]⟩
noncomputable def J2 (Z:Env):=fun i1 o2 v3 m4 e5 n6 n7 s8=>Z.X 10 .body J2P (J2F i1 o2 v3 m4 e5 n6 n7 s8)
noncomputable def b (rr:Rec)(_dd:Option V->Rec)(jJ0:Nat->Nat->Int->V->Bool->List O->R)(i1 o2:Nat)(a3:Int)(s:List O):R:=cT (rr af8 [(vO i1 o2),(vI a3)] s) (fun v4 s5=>aT v4 fun c6=>aC c6 fun v7 r8=>aC r8 fun v9 r10=>aI v9 fun n11=>aN r10 (bif (n11 !=z0) then retR [(vI n11)] s5 else aO v7 fun i12 o13=>rd1 s5 i12 (o13+4) fun v14=>aI v14 fun n15=>bif (decide (n15>2)) then jJ0 (i1) (o2) (a3) (v7) (true) (s5) else cS (rr as1 [(vO i1 o2),(vI a3)] s5) (fun v16 s17=>(lnV v16).bind fun n18=>jJ0 (i1) (o2) (a3) (v7) ((decide (n18>0))) (s17)) panK)) panK
theorem b_eq (Z:Env) i1 o2 a3 s:ah0 Z 10 [(vO i1 o2),(vI a3)] s=b Z.R Z.D (J0 Z) i1 o2 a3 s:=by kernel_rfl
noncomputable def J0b (rr:Rec)(_dd:Option V->Rec)(jL1:Nat->Nat->V->Bool->List V->Int->Int->List O->R)(i1 o2:Nat)(n3:Int)(v4:V)(b5:Bool)(s6:List O):R:=bif b5 then retR [(vI 9)] s6 else aO v4 fun i7 o8=>rd1 s6 i7 (o8+4) fun v9=>aI v9 fun n10=>bif (n10==(2:Int)) then cS (rr ae5 [(vO i1 o2),(vI n3)] s6) (fun v11 s12=>aI v11 fun n13=>retR [(vI n13)] s12) panK else aO v4 fun i16 o17=>rd1 s6 i16 (o17+3) fun v18=>aI v18 fun n19=>bif (n19 !=z0) then ck (([(vO i1 o2),v4]).all ad2) (cS (rr 29 [(vO i1 o2),v4] s6) (fun v20 s21=>aI v20 fun n22=>retR [(vI n22)] s21) panK) else aO v4 fun i25 o26=>wrO s6 i25 (o26+4) [((vI 3),false)] fun s27=>aO v4 fun i28 o29=>rd1 s27 i28 ((o29+0)+1) fun v30=>aL 1 v30 fun m31 e32=>jL1 (i1) (o2) (v4) (m31) (e32) (((e32).length:Int)) (z0) (s27)
theorem ak2 (Z:Env) i1 o2 n3 v4 b5 s6:ad6 Z 10 .body J0P (J0F i1 o2 n3 v4 b5 s6)=J0b Z.R Z.D (L1 Z) i1 o2 n3 v4 b5 s6:=by kernel_rfl
noncomputable def L1b (rr:Rec)(_dd:Option V->Rec)(jJ2:Nat->Nat->V->Bool->List V->Int->Int->List O->R)(i1 o2:Nat)(v3:V)(m4:Bool)(e5:List V)(n6 n7:Int)(s8:List O):R:=bif (decide (n7<n6)) then idxK e5 n7 fun v9=>aC (V.cells v9) fun v10 r11=>aS v10 fun s12=>aN r11 (aO v3 fun i13 o14=>aO v3 fun i15 o16=>rdT s8 i15 (o16+9) (fun v17=>aL 2 v17 fun m18 e19=>apK e19 [(vA [(vI 1),(vS s12)])] 24 (ck (!m18) (wrO s8 i13 (o14+9) [((vL true 2 (e19++[(vA [(vI 1),(vS s12)])])),true)] fun s20=>jJ2 (i1) (o2) (v3) (m4) (e5) (n6) (n7) (s20)))) (fun v17 s21=>aL 2 v17 fun m22 e23=>apK e23 [(vA [(vI 1),(vS s12)])] 24 (wrO s21 i13 (o14+9) [((vL (m22||!([(vA [(vI 1),(vS s12)])]).isEmpty) 2 (e23++[(vA [(vI 1),(vS s12)])])),true)] fun s24=>jJ2 (i1) (o2) (v3) (m4) (e5) (n6) (n7) (s24)))) else rd1 s8 i1 (o2+2) fun v25=>ck (V.good v3) ((apS 1 8 s8 (v25,.no) (vL true 1 [v3])).bind fun q26=>ck (V.good q26.1) (wrO q26.2 i1 (o2+2) [(q26.1,(nilB q26.1))] fun s27=>ck (([(vO i1 o2),v3]).all ad2) (as9 (rr ac4 [(vO i1 o2),v3] s27) (fun v28 s29=>aT v28 fun c30=>aN c30 (retR [(vI 0)] s29)) panK)))
theorem bn6 (Z:Env) i1 o2 v3 m4 e5 n6 n7 s8:aj9 Z 10 .body L1P (L1F i1 o2 v3 m4 e5 n6 n7 s8)=L1b Z.R Z.D (J2 Z) i1 o2 v3 m4 e5 n6 n7 s8:=by kernel_rfl
noncomputable def J2b (_rr:Rec)(_dd:Option V->Rec)(jL1:Nat->Nat->V->Bool->List V->Int->Int->List O->R)(i1 o2:Nat)(v3:V)(m4:Bool)(e5:List V)(n6 n7:Int)(s8:List O):R:=jL1 (i1) (o2) (v3) (m4) (e5) (n6) ((w6 (n7+z1))) (s8)
theorem am0 (Z:Env) i1 o2 v3 m4 e5 n6 n7 s8:ad6 Z 10 .body J2P (J2F i1 o2 v3 m4 e5 n6 n7 s8)=J2b Z.R Z.D (L1 Z) i1 o2 v3 m4 e5 n6 n7 s8:=by kernel_rfl
theorem b_of i1 o2 a3 s {o}(h:b RZ.R RZ.D (J0 RZ) i1 o2 a3 s=some o):RZ.R ag0 [(vO i1 o2),(vI a3)] s=some o:=ae0 ((b_eq RZ i1 o2 a3 s).trans h)
theorem am9 i1 o2 n3 v4 b5 s6 {o}(h:J0b RZ.R RZ.D (L1 RZ) i1 o2 n3 v4 b5 s6=some o):J0 RZ i1 o2 n3 v4 b5 s6=some o:=ac1 (by kernel_rfl) ((ak2 RZ i1 o2 n3 v4 b5 s6).trans h)
theorem bd6 i1 o2 v3 m4 e5 n6 n7 s8 {o}(h:L1b RZ.R RZ.D (J2 RZ) i1 o2 v3 m4 e5 n6 n7 s8=some o):L1 RZ i1 o2 v3 m4 e5 n6 n7 s8=some o:=af7 ((bn6 RZ i1 o2 v3 m4 e5 n6 n7 s8).trans h)
theorem ar1 i1 o2 v3 m4 e5 n6 n7 s8 {o}(h:J2b RZ.R RZ.D (L1 RZ) i1 o2 v3 m4 e5 n6 n7 s8=some o):J2 RZ i1 o2 v3 m4 e5 n6 n7 s8=some o:=ac1 (by kernel_rfl) ((am0 RZ i1 o2 v3 m4 e5 n6 n7 s8).trans h)
end ac7
namespace ag1
def J0P :List Nat:=[0,0,1,1,1,1,1,1,1]
def J0F (i1 o2:Nat)(n3:Int)(v4:V)(b5:Bool)(n6:Int)(s7:ByteArray)(n8:Int)(v9:V)(s10:List O):St:=⟨mkT 59 [(0,(vO i1 o2),.no),(1,(vI n3),.no),(5,v4,.no),(6,(V.loc 0 0),.no),(7,(V.loc 1 0),.no),(37,(vB b5),.no)],mkA 2 [(0,[((vI n6),.no),((vS s7),.no)]),(1,[((vI n8),.no),(v9,.no)])],0,[],s10,[]⟩
noncomputable def J0 (Z:Env):=fun i1 o2 n3 v4 b5 n6 s7 n8 v9 s10=>Z.X 13 .body J0P (J0F i1 o2 n3 v4 b5 n6 s7 n8 v9 s10)
noncomputable def b (rr:Rec)(_dd:Option V->Rec)(jJ0:Nat->Nat->Int->V->Bool->Int->ByteArray->Int->V->List O->R)(i1 o2:Nat)(a3:Int)(s:List O):R:=cS (rr ap0 [(vO i1 o2)] s) (fun v4 s5=>at0 v4 fun b6=>bif b6 then retR [(vI 8)] s5 else rd1 s5 i1 (o2+3) fun v7=>aB v7 fun b8=>bif (!b8) then retR [(vI 9)] s5 else aO v4 fun i9 o10=>rd1 s5 i9 (o10+9) fun v11=>aL 2 v11 fun _ e13=>idxK e13 z0 fun v14=>aC (V.cells v14) fun v15 r16=>aI v15 fun n17=>aC r16 fun v18 r19=>aS v18 fun s20=>aN r19 (as4 [(cS (rr as0 [] s5) (fun v21 s22=>aA v21 fun c23=>aC c23 fun v24 r25=>aI v24 fun n26=>aC r25 fun v27 r28=>aC r28 fun v29 r30=>aI v29 fun n31=>aC r30 fun v32 r33=>aC r33 fun v34 r35=>aI v34 fun n36=>aC r35 fun v37 r38=>aC r38 fun v39 r40=>aI v39 fun n41=>aC r40 fun v42 r43=>aC r43 fun v44 r45=>aI v44 fun n46=>aC r45 fun v47 r48=>aC r48 fun v49 r50=>aI v49 fun n51=>aC r50 fun v52 r53=>aC r53 fun v54 r55=>aI v54 fun n56=>aC r55 fun v57 r58=>aN r58 (as4 [(idxA [(vI n26),v27,(vI n31),v32,(vI n36),v37,(vI n41),v42,(vI n46),v47,(vI n51),v52,(vI n56),v57] 2 7 (w6 (n17-z1)) fun c59=>aA (vA c59) fun c60=>aC c60 fun v61 r62=>aI v61 fun n63=>aC r62 fun v64 r65=>aN r65 (ck (([(vI n63),v64]).length==2&&ac5 [(vI n63),v64]&&2 !=0) (bif (decide (a3<1)) then jJ0 (i1) (o2) (a3) (v4) (true) (n17) (s20) (n63) (v64) (s22) else jJ0 (i1) (o2) (a3) (v4) ((decide (a3>n63))) (n17) (s20) (n63) (v64) (s22)))),(idxA [(vI n26),v27,(vI n31),v32,(vI n36),v37,(vI n41),v42,(vI n46),v47,(vI n51),v52,(vI n56),v57] 2 7 (w6 (n17-z1)) fun c66=>aA (vA c66) fun c67=>aC c67 fun v68 r69=>aI v68 fun n70=>aC r69 fun v71 r72=>aN r72 (ck (([(vI n70),v71]).length==2&&ac5 [(vI n70),v71]&&2 !=0) (bif (decide (a3<1)) then jJ0 (i1) (o2) (a3) (v4) (true) (n17) (s20) (n70) (v71) (s22) else jJ0 (i1) (o2) (a3) (v4) ((decide (a3>n70))) (n17) (s20) (n70) (v71) (s22))))])) (fun _ _=>none)),(as4 [(cS (rr as0 [] s5) (fun v75 s76=>aA v75 fun c77=>aC c77 fun v78 r79=>aI v78 fun n80=>aC r79 fun v81 r82=>aC r82 fun v83 r84=>aI v83 fun n85=>aC r84 fun v86 r87=>aC r87 fun v88 r89=>aI v88 fun n90=>aC r89 fun v91 r92=>aC r92 fun v93 r94=>aI v93 fun n95=>aC r94 fun v96 r97=>aC r97 fun v98 r99=>aI v98 fun n100=>aC r99 fun v101 r102=>aC r102 fun v103 r104=>aI v103 fun n105=>aC r104 fun v106 r107=>aC r107 fun v108 r109=>aI v108 fun n110=>aC r109 fun v111 r112=>aN r112 (idxA [(vI n80),v81,(vI n85),v86,(vI n90),v91,(vI n95),v96,(vI n100),v101,(vI n105),v106,(vI n110),v111] 2 7 (w6 (n17-z1)) fun c113=>aA (vA c113) fun c114=>aC c114 fun v115 r116=>aI v115 fun n117=>aC r116 fun v118 r119=>aN r119 (ck (([(vI n117),v118]).length==2&&ac5 [(vI n117),v118]&&2 !=0) (bif (decide (a3<1)) then jJ0 (i1) (o2) (a3) (v4) (true) (n17) (s20) (n117) (v118) (s76) else jJ0 (i1) (o2) (a3) (v4) ((decide (a3>n117))) (n17) (s20) (n117) (v118) (s76))))) (fun _ _=>none)),(cS (rr as0 [] s5) (fun v122 s123=>aA v122 fun c124=>aC c124 fun v125 r126=>aI v125 fun n127=>aC r126 fun v128 r129=>aC r129 fun v130 r131=>aI v130 fun n132=>aC r131 fun v133 r134=>aC r134 fun v135 r136=>aI v135 fun n137=>aC r136 fun v138 r139=>aC r139 fun v140 r141=>aI v140 fun n142=>aC r141 fun v143 r144=>aC r144 fun v145 r146=>aI v145 fun n147=>aC r146 fun v148 r149=>aC r149 fun v150 r151=>aI v150 fun n152=>aC r151 fun v153 r154=>aC r154 fun v155 r156=>aI v155 fun n157=>aC r156 fun v158 r159=>aN r159 (idxA [(vI n127),v128,(vI n132),v133,(vI n137),v138,(vI n142),v143,(vI n147),v148,(vI n152),v153,(vI n157),v158] 2 7 (w6 (n17-z1)) fun c160=>aA (vA c160) fun c161=>aC c161 fun v162 r163=>aI v162 fun n164=>aC r163 fun v165 r166=>aN r166 (ck (([(vI n164),v165]).length==2&&ac5 [(vI n164),v165]&&2 !=0) (bif (decide (a3<1)) then jJ0 (i1) (o2) (a3) (v4) (true) (n17) (s20) (n164) (v165) (s123) else jJ0 (i1) (o2) (a3) (v4) ((decide (a3>n164))) (n17) (s20) (n164) (v165) (s123))))) (fun _ _=>none))]),(cS (rr as0 [] s5) (fun v169 s170=>aA v169 fun c171=>aC c171 fun v172 r173=>aI v172 fun n174=>aC r173 fun v175 r176=>aC r176 fun v177 r178=>aI v177 fun n179=>aC r178 fun v180 r181=>aC r181 fun v182 r183=>aI v182 fun n184=>aC r183 fun v185 r186=>aC r186 fun v187 r188=>aI v187 fun n189=>aC r188 fun v190 r191=>aC r191 fun v192 r193=>aI v192 fun n194=>aC r193 fun v195 r196=>aC r196 fun v197 r198=>aI v197 fun n199=>aC r198 fun v200 r201=>aC r201 fun v202 r203=>aI v202 fun n204=>aC r203 fun v205 r206=>aN r206 (idxA [(vI n174),v175,(vI n179),v180,(vI n184),v185,(vI n189),v190,(vI n194),v195,(vI n199),v200,(vI n204),v205] 2 7 (w6 (n17-z1)) fun c207=>aA (vA c207) fun c208=>aC c208 fun v209 r210=>aI v209 fun n211=>aC r210 fun v212 r213=>aN r213 (ck (([(vI n211),v212]).length==2&&ac5 [(vI n211),v212]&&2 !=0) (bif (decide (a3<1)) then jJ0 (i1) (o2) (a3) (v4) (true) (n17) (s20) (n211) (v212) (s170) else jJ0 (i1) (o2) (a3) (v4) ((decide (a3>n211))) (n17) (s20) (n211) (v212) (s170))))) (fun _ _=>none))])) panK
theorem b_eq (Z:Env) i1 o2 a3 s:ah0 Z 13 [(vO i1 o2),(vI a3)] s=b Z.R Z.D (J0 Z) i1 o2 a3 s:=by kernel_rfl
noncomputable def J0b (rr:Rec)(_dd:Option V->Rec)(i1 o2:Nat)(n3:Int)(v4:V)(b5:Bool)(n6:Int)(s7:ByteArray)(_n8:Int)(v9:V)(s10:List O):R:=bif b5 then retR [(vI 7)] s10 else wrO s10 i1 (o2+3) [((vB false),false)] fun s11=>aO v4 fun i12 o13=>aO v4 fun i14 o15=>rdT s11 i14 (o15+9) (fun v16=>aL 2 v16 fun m17 e18=>ck (decide (0<=z1)&&(decide (z1<=((e18).length:Int))&&decide (((e18).length:Int)<=((e18).length:Int)))) (wrO s11 i12 (o13+9) [((vL m17 2 (((e18).take (((e18).length:Int)).toNat).drop (z1).toNat)),(nilB (vL m17 2 (((e18).take (((e18).length:Int)).toNat).drop (z1).toNat))))] fun s19=>aD5 rr v9 [(vO i1 o2),v4,(vA [(vI n6),(vS s7)]),(vI n3)] s19 (fun v20 s21=>aT v20 fun c22=>aN c22 (ck (nlB 0 [(v4,.no)]) (ck (nlB 1 [(v4,.no)]) (ck (([(vO i1 o2),v4]).all ad2) (as9 (rr ac4 [(vO i1 o2),v4] s21) (fun v23 s24=>aT v23 fun c25=>aN c25 (retR [(vI 0)] s24)) panK))))) panK)) (fun v16 s30=>aL 2 v16 fun m31 e32=>ck (decide (0<=z1)&&(decide (z1<=((e32).length:Int))&&decide (((e32).length:Int)<=((e32).length:Int)))) (wrO s30 i12 (o13+9) [((vL m31 2 (((e32).take (((e32).length:Int)).toNat).drop (z1).toNat)),true)] fun s33=>aD5 rr v9 [(vO i1 o2),v4,(vA [(vI n6),(vS s7)]),(vI n3)] s33 (fun v34 s35=>aT v34 fun c36=>aN c36 (ck (nlB 0 [(v4,.no)]) (ck (nlB 1 [(v4,.no)]) (ck (([(vO i1 o2),v4]).all ad2) (as9 (rr ac4 [(vO i1 o2),v4] s35) (fun v37 s38=>aT v37 fun c39=>aN c39 (retR [(vI 0)] s38)) panK))))) panK))
theorem ak2 (Z:Env) i1 o2 n3 v4 b5 n6 s7 n8 v9 s10:ad6 Z 13 .body J0P (J0F i1 o2 n3 v4 b5 n6 s7 n8 v9 s10)=J0b Z.R Z.D i1 o2 n3 v4 b5 n6 s7 n8 v9 s10:=by kernel_rfl
theorem b_of i1 o2 a3 s {o}(h:b RZ.R RZ.D (J0 RZ) i1 o2 a3 s=some o):RZ.R af0 [(vO i1 o2),(vI a3)] s=some o:=ae0 ((b_eq RZ i1 o2 a3 s).trans h)
theorem am9 i1 o2 n3 v4 b5 n6 s7 n8 v9 s10 {o}(h:J0b RZ.R RZ.D i1 o2 n3 v4 b5 n6 s7 n8 v9 s10=some o):J0 RZ i1 o2 n3 v4 b5 n6 s7 n8 v9 s10=some o:=ac1 (by kernel_rfl) ((ak2 RZ i1 o2 n3 v4 b5 n6 s7 n8 v9 s10).trans h)
end ag1
namespace bs2
def J0P :List Nat:=[0,0,1,1,1]
def J0F (v1:V)(b2:Bool)(s3:List O):St:=⟨mkT 31 [(5,v1,.no),(27,(vB b2),.no)],mkA 0 [],0,[],s3,[]⟩
noncomputable def J0 (Z:Env):=fun v1 b2 s3=>Z.X 18 .body J0P (J0F v1 b2 s3)
noncomputable def b (rr:Rec)(_dd:Option V->Rec)(jJ0:V->Bool->List O->R)(i1 o2:Nat)(a3:Int)(s:List O):R:=cT (rr af8 [(vO i1 o2),(vI a3)] s) (fun v4 s5=>aT v4 fun c6=>aC c6 fun v7 r8=>aC r8 fun v9 r10=>aI v9 fun n11=>aN r10 (bif (n11 !=z0) then retR [(vI n11)] s5 else aO v7 fun i12 o13=>rd1 s5 i12 (o13+4) fun v14=>aI v14 fun n15=>bif (n15 !=z1) then aO v7 fun i16 o17=>rd1 s5 i16 (o17+4) fun v18=>aI v18 fun n19=>jJ0 (v7) ((n19 !=(2:Int))) (s5) else jJ0 (v7) (false) (s5))) panK
theorem b_eq (Z:Env) i1 o2 a3 s:ah0 Z 18 [(vO i1 o2),(vI a3)] s=b Z.R Z.D (J0 Z) i1 o2 a3 s:=by kernel_rfl
noncomputable def J0b (_rr:Rec)(_dd:Option V->Rec)(v1:V)(b2:Bool)(s3:List O):R:=bif b2 then retR [(vI 9)] s3 else aO v1 fun i4 o5=>wrO s3 i4 (o5+4) [((vI 2),false)] fun s6=>retR [(vI 0)] s6
theorem ak2 (Z:Env) v1 b2 s3:ad6 Z 18 .body J0P (J0F v1 b2 s3)=J0b Z.R Z.D v1 b2 s3:=by kernel_rfl
theorem b_of i1 o2 a3 s {o}(h:b RZ.R RZ.D (J0 RZ) i1 o2 a3 s=some o):RZ.R bC2 [(vO i1 o2),(vI a3)] s=some o:=ae0 ((b_eq RZ i1 o2 a3 s).trans h)
theorem am9 v1 b2 s3 {o}(h:J0b RZ.R RZ.D v1 b2 s3=some o):J0 RZ v1 b2 s3=some o:=ac1 (by kernel_rfl) ((ak2 RZ v1 b2 s3).trans h)
end bs2
namespace ad7
def L0P :List Nat:=[0,1,0,1,1]
def L0F (i1 o2:Nat)(n3:Int)(v4:V)(n5:Int)(s6:List O):St:=⟨mkT 46 [(0,(vO i1 o2),.no),(1,(vI n3),.no),(5,v4,.no),(6,(vI n5),.no)],mkA 0 [],0,[],s6,[]⟩
noncomputable def L0 (Z:Env):=fun i1 o2 n3 v4 n5 s6=>Z.X 28 .body L0P (L0F i1 o2 n3 v4 n5 s6)
def J1P :List Nat:=[0,1,0,0,1,0,0,1,0,1,1]
def J1F (i1 o2:Nat)(n3:Int)(v4:V)(n5:Int)(v6:V)(b7:Bool)(s8:List O):St:=⟨mkT 46 [(0,(vO i1 o2),.no),(1,(vI n3),.no),(5,v4,.no),(6,(vI n5),.no),(7,v6,.no),(40,(vB b7),.no)],mkA 0 [],0,[],s8,[]⟩
noncomputable def J1 (Z:Env):=fun i1 o2 n3 v4 n5 v6 b7 s8=>Z.X 28 .body J1P (J1F i1 o2 n3 v4 n5 v6 b7 s8)
def J2P :List Nat:=[1,1,0,0,1,0,0,1,0,1,1]
def J2F (i1 o2:Nat)(n3:Int)(v4:V)(n5:Int)(s6:List O):St:=⟨mkT 46 [(0,(vO i1 o2),.no),(1,(vI n3),.no),(5,v4,.no),(6,(vI n5),.no)],mkA 0 [],0,[],s6,[]⟩
noncomputable def J2 (Z:Env):=fun i1 o2 n3 v4 n5 s6=>Z.X 28 .body J2P (J2F i1 o2 n3 v4 n5 s6)
noncomputable def b (_rr:Rec)(_dd:Option V->Rec)(jL0:Nat->Nat->Int->V->Int->List O->R)(i1 o2:Nat)(a3:Int)(s:List O):R:=rd1 s i1 (o2+1) fun v4=>aI v4 fun n5=>jL0 (i1) (o2) (a3) ((vL false 0 [])) ((w6 (n5-z1))) (s)
theorem b_eq (Z:Env) i1 o2 a3 s:ah0 Z 28 [(vO i1 o2),(vI a3)] s=b Z.R Z.D (L0 Z) i1 o2 a3 s:=by kernel_rfl
noncomputable def L0b (_rr:Rec)(_dd:Option V->Rec)(jJ1:Nat->Nat->Int->V->Int->V->Bool->List O->R)(i1 o2:Nat)(n3:Int)(v4:V)(n5:Int)(s6:List O):R:=bif (decide (n5>n3)) then rd1 s6 i1 (o2+0) fun v7=>aM2 v7 fun i8=>mapK s6 i8 fun e9 _=>ar6 (vI n5) e9 fun r11=>at0 ((r11).getD V.nilptr) fun b12=>bif (!b12) then aO ((r11).getD V.nilptr) fun i13 o14=>rd1 s6 i13 (o14+3) fun v15=>aI v15 fun n16=>bif (n16==n3) then aO ((r11).getD V.nilptr) fun i17 o18=>rd1 s6 i17 (o18+4) fun v19=>aI v19 fun n20=>jJ1 (i1) (o2) (n3) (v4) (n5) (((r11).getD V.nilptr)) ((decide (n20<=2))) (s6) else jJ1 (i1) (o2) (n3) (v4) (n5) (((r11).getD V.nilptr)) (false) (s6) else jJ1 (i1) (o2) (n3) (v4) (n5) (((r11).getD V.nilptr)) (false) (s6) else retK [v4] s6
theorem ah2 (Z:Env) i1 o2 n3 v4 n5 s6:aj9 Z 28 .body L0P (L0F i1 o2 n3 v4 n5 s6)=L0b Z.R Z.D (J1 Z) i1 o2 n3 v4 n5 s6:=by kernel_rfl
noncomputable def J1b (_rr:Rec)(_dd:Option V->Rec)(jJ2:Nat->Nat->Int->V->Int->List O->R)(i1 o2:Nat)(n3:Int)(v4:V)(n5:Int)(v6:V)(b7:Bool)(s8:List O):R:=bif b7 then ck (V.good v6) ((apS 1 8 s8 (v4,.no) (vL true 1 [v6])).bind fun q9=>jJ2 (i1) (o2) (n3) (q9.1) (n5) (q9.2)) else jJ2 (i1) (o2) (n3) (v4) (n5) (s8)
theorem ah3 (Z:Env) i1 o2 n3 v4 n5 v6 b7 s8:ad6 Z 28 .body J1P (J1F i1 o2 n3 v4 n5 v6 b7 s8)=J1b Z.R Z.D (J2 Z) i1 o2 n3 v4 n5 v6 b7 s8:=by kernel_rfl
noncomputable def J2b (_rr:Rec)(_dd:Option V->Rec)(jL0:Nat->Nat->Int->V->Int->List O->R)(i1 o2:Nat)(n3:Int)(v4:V)(n5:Int)(s6:List O):R:=jL0 (i1) (o2) (n3) (v4) ((w6 (n5-z1))) (s6)
theorem am0 (Z:Env) i1 o2 n3 v4 n5 s6:ad6 Z 28 .body J2P (J2F i1 o2 n3 v4 n5 s6)=J2b Z.R Z.D (L0 Z) i1 o2 n3 v4 n5 s6:=by kernel_rfl
theorem b_of i1 o2 a3 s {o}(h:b RZ.R RZ.D (L0 RZ) i1 o2 a3 s=some o):RZ.R as1 [(vO i1 o2),(vI a3)] s=some o:=ae0 ((b_eq RZ i1 o2 a3 s).trans h)
theorem ag4 i1 o2 n3 v4 n5 s6 {o}(h:L0b RZ.R RZ.D (J1 RZ) i1 o2 n3 v4 n5 s6=some o):L0 RZ i1 o2 n3 v4 n5 s6=some o:=af7 ((ah2 RZ i1 o2 n3 v4 n5 s6).trans h)
theorem ak6 i1 o2 n3 v4 n5 v6 b7 s8 {o}(h:J1b RZ.R RZ.D (J2 RZ) i1 o2 n3 v4 n5 v6 b7 s8=some o):J1 RZ i1 o2 n3 v4 n5 v6 b7 s8=some o:=ac1 (by kernel_rfl) ((ah3 RZ i1 o2 n3 v4 n5 v6 b7 s8).trans h)
theorem ar1 i1 o2 n3 v4 n5 s6 {o}(h:J2b RZ.R RZ.D (L0 RZ) i1 o2 n3 v4 n5 s6=some o):J2 RZ i1 o2 n3 v4 n5 s6=some o:=ac1 (by kernel_rfl) ((am0 RZ i1 o2 n3 v4 n5 s6).trans h)
end ad7
namespace ae7
noncomputable def b (_rr:Rec)(_dd:Option V->Rec)(v1:V)(s:List O):R:=(nilS v1).bind fun b2=>bif b2 then retR [(vL false 0 [])] s else (apS 1 16 s ((vL true 1 []),.full) v1).bind fun q3=>retK [q3.1] q3.2
theorem b_eq (Z:Env) v1 s:ah0 Z 31 [v1] s=b Z.R Z.D v1 s:=by kernel_rfl
theorem b_of v1 s {o}(h:b RZ.R RZ.D v1 s=some o):RZ.R ac3 [v1] s=some o:=ae0 ((b_eq RZ v1 s).trans h)
end ae7
namespace aE6
end aE6
namespace aa8
def L0P :List Nat:=[0,1,0,1,1,1]
def L0F (v1 v2:V)(n3 n4:Int)(s5:List O):St:=⟨mkT 42 [(0,v1,.no),(1,v2,.no),(5,(vI n3),.no),(6,(vI n4),.no)],mkA 0 [],0,[],s5,[]⟩
noncomputable def L0 (Z:Env):=fun v1 v2 n3 n4 s5=>Z.X 43 .body L0P (L0F v1 v2 n3 n4 s5)
def J1P :List Nat:=[1,1,0,0,1,0,0,1,0,1,1,1]
def J1F (v1 v2:V)(n3 n4:Int)(s5:List O):St:=⟨mkT 42 [(0,v1,.no),(1,v2,.no),(5,(vI n3),.no),(6,(vI n4),.no)],mkA 0 [],0,[],s5,[]⟩
noncomputable def J1 (Z:Env):=fun v1 v2 n3 n4 s5=>Z.X 43 .body J1P (J1F v1 v2 n3 n4 s5)
noncomputable def b (rr:Rec)(_dd:Option V->Rec)(jL0:V->V->Int->Int->List O->R)(v1 v2:V)(s:List O):R:=ck (([v1,v2]).all ad2) (cS (rr ak1 [v1,v2] s) (fun v3 s4=>aI v3 fun n5=>bif (n5==((-1):Int)) then retK [v1] s4 else jL0 (v1) (v2) (n5) ((w6 (n5+z1))) (s4)) panK)
theorem b_eq (Z:Env) v1 v2 s:ah0 Z 43 [v1,v2] s=b Z.R Z.D (L0 Z) v1 v2 s:=by kernel_rfl
noncomputable def L0b (rr:Rec)(_dd:Option V->Rec)(jJ1:V->V->Int->Int->List O->R)(v1 v2:V)(n3 n4:Int)(s5:List O):R:=(lnV v1).bind fun n6=>bif (decide (n4<n6)) then (ixV 1 v1 n4).bind fun p7=>ck (az2 p7) (ld1 s5 p7 fun c8=>aD5 rr v2 [c8] s5 (fun v9 s10=>aB v9 fun b11=>bif (!b11) then (ixV 1 v1 n3).bind fun p12=>ck (az2 p12) (aO p12 fun i13 o14=>ck (V.good c8) (wrO s10 i13 o14 [(c8,(nilB c8))] fun s15=>jJ1 (v1) (v2) ((w6 (n3+z1))) (n4) (s15))) else jJ1 (v1) (v2) (n3) (n4) (s10)) panK) else (slV 1 v1 (some (vI n3)) none).bind fun v18=>(CLS 60 v18 s5).bind fun s19=>(slV 1 v1 none (some (vI n3))).bind fun v20=>retK [v20] s19
theorem ah2 (Z:Env) v1 v2 n3 n4 s5:aj9 Z 43 .body L0P (L0F v1 v2 n3 n4 s5)=L0b Z.R Z.D (J1 Z) v1 v2 n3 n4 s5:=by kernel_rfl
noncomputable def J1b (_rr:Rec)(_dd:Option V->Rec)(jL0:V->V->Int->Int->List O->R)(v1 v2:V)(n3 n4:Int)(s5:List O):R:=jL0 (v1) (v2) (n3) ((w6 (n4+z1))) (s5)
theorem ah3 (Z:Env) v1 v2 n3 n4 s5:ad6 Z 43 .body J1P (J1F v1 v2 n3 n4 s5)=J1b Z.R Z.D (L0 Z) v1 v2 n3 n4 s5:=by kernel_rfl
theorem b_of v1 v2 s {o}(h:b RZ.R RZ.D (L0 RZ) v1 v2 s=some o):RZ.R ae1 [v1,v2] s=some o:=ae0 ((b_eq RZ v1 v2 s).trans h)
theorem ag4 v1 v2 n3 n4 s5 {o}(h:L0b RZ.R RZ.D (J1 RZ) v1 v2 n3 n4 s5=some o):L0 RZ v1 v2 n3 n4 s5=some o:=af7 ((ah2 RZ v1 v2 n3 n4 s5).trans h)
theorem ak6 v1 v2 n3 n4 s5 {o}(h:J1b RZ.R RZ.D (L0 RZ) v1 v2 n3 n4 s5=some o):J1 RZ v1 v2 n3 n4 s5=some o:=ac1 (by kernel_rfl) ((ah3 RZ v1 v2 n3 n4 s5).trans h)
end aa8
namespace ab2
def J0P :List Nat:=[1,0,1,0,1,1]
def J0F (i1 o2:Nat)(n3 n4:Int)(s5:ByteArray)(v6:V)(s7:List O):St:=⟨mkT 47 [(1,(vO i1 o2),.no),(3,(vI n3),.no),(6,(vR [(vI n4),(vS s5)]),.no),(23,v6,.no)],mkA 0 [],0,[],s7,[]⟩
noncomputable def J0 (Z:Env):=fun i1 o2 n3 n4 s5 v6 s7=>Z.X 48 .body J0P (J0F i1 o2 n3 n4 s5 v6 s7)
def J1P :List Nat:=[0,1,1,1]
def J1F (i1 o2:Nat)(n3:Int)(s4:ByteArray)(v5:V)(b6:Bool)(s7:List O):St:=⟨mkT 47 [(1,(vO i1 o2),.no),(6,(vR [(vI n3),(vS s4)]),.no),(23,v5,.no),(35,(vB b6),.no)],mkA 0 [],0,[],s7,[]⟩
noncomputable def J1 (Z:Env):=fun i1 o2 n3 s4 v5 b6 s7=>Z.X 48 .body J1P (J1F i1 o2 n3 s4 v5 b6 s7)
def J2P :List Nat:=[1,1,1,1]
def J2F (v1:V)(s2:List O):St:=⟨mkT 47 [(23,v1,.no)],mkA 0 [],0,[],s2,[]⟩
noncomputable def J2 (Z:Env):=fun v1 s2=>Z.X 48 .body J2P (J2F v1 s2)
def J3P :List Nat:=[1,1,1,0,1,0,1,1]
def J3F (i1 o2:Nat)(n3 n4:Int)(s5:ByteArray)(v6:V)(s7:List O):St:=⟨mkT 47 [(1,(vO i1 o2),.no),(3,(vI n3),.no),(6,(vR [(vI n4),(vS s5)]),.no),(23,v6,.no)],mkA 0 [],0,[],s7,[]⟩
noncomputable def J3 (Z:Env):=fun i1 o2 n3 n4 s5 v6 s7=>Z.X 48 .body J3P (J3F i1 o2 n3 n4 s5 v6 s7)
def J4P :List Nat:=[1,0,1,1,1,1,0,1,0,1,1]
def J4F (i1 o2:Nat)(n3 n4:Int)(s5:ByteArray)(b6:Bool)(s7:List O):St:=⟨mkT 47 [(1,(vO i1 o2),.no),(3,(vI n3),.no),(6,(vR [(vI n4),(vS s5)]),.no),(23,(vB b6),.no)],mkA 0 [],0,[],s7,[]⟩
noncomputable def J4 (Z:Env):=fun i1 o2 n3 n4 s5 b6 s7=>Z.X 48 .body J4P (J4F i1 o2 n3 n4 s5 b6 s7)
def J5P :List Nat:=[1,1,1,1,1,0,1,0,1,1]
def J5F (i1 o2:Nat)(n3 n4:Int)(s5:ByteArray)(v6:V)(s7:List O):St:=⟨mkT 47 [(1,(vO i1 o2),.no),(3,(vI n3),.no),(6,(vR [(vI n4),(vS s5)]),.no),(23,v6,.no)],mkA 0 [],0,[],s7,[]⟩
noncomputable def J5 (Z:Env):=fun i1 o2 n3 n4 s5 v6 s7=>Z.X 48 .body J5P (J5F i1 o2 n3 n4 s5 v6 s7)
noncomputable def b (_rr:Rec)(_dd:Option V->Rec)(jJ0:Nat->Nat->Int->Int->ByteArray->V->List O->R)(jJ3:Nat->Nat->Int->Int->ByteArray->V->List O->R)(jJ4:Nat->Nat->Int->Int->ByteArray->Bool->List O->R)(_i1 _o2 i3 o4:Nat)(a5:Int)(a6:ByteArray)(a7:Int)(s:List O):R:=wrO s i3 (o4+4) [((vI 4),false)] fun s8=>bif (a7==(2:Int)) then wrO s8 i3 (o4+4) [((vI 5),false)] fun s9=>jJ0 (i3) (o4) (a7) (a5) (a6) (vN) (s9) else bif (a7==(3:Int)) then wrO s8 i3 ((o4+5)+1) [((vB true),false)] fun s10=>jJ3 (i3) (o4) (a7) (a5) (a6) (vN) (s10) else bif (a7==(4:Int)) then jJ4 (i3) (o4) (a7) (a5) (a6) ((a7==(4:Int))) (s8) else jJ4 (i3) (o4) (a7) (a5) (a6) ((a7==(5:Int))) (s8)
theorem b_eq (Z:Env) i1 o2 i3 o4 a5 a6 a7 s:ah0 Z 48 [(vO i1 o2),(vO i3 o4),(vA [(vI a5),(vS a6)]),(vI a7)] s=b Z.R Z.D (J0 Z) (J3 Z) (J4 Z) i1 o2 i3 o4 a5 a6 a7 s:=by kernel_rfl
noncomputable def J0b (_rr:Rec)(_dd:Option V->Rec)(jJ1:Nat->Nat->Int->ByteArray->V->Bool->List O->R)(i1 o2:Nat)(n3 n4:Int)(s5:ByteArray)(v6:V)(s7:List O):R:=bif (decide (n3>=2)) then jJ1 (i1) (o2) (n4) (s5) (v6) ((decide (n3<=4))) (s7) else jJ1 (i1) (o2) (n4) (s5) (v6) (false) (s7)
theorem ak2 (Z:Env) i1 o2 n3 n4 s5 v6 s7:ad6 Z 48 .body J0P (J0F i1 o2 n3 n4 s5 v6 s7)=J0b Z.R Z.D (J1 Z) i1 o2 n3 n4 s5 v6 s7:=by kernel_rfl
noncomputable def J1b (_rr:Rec)(_dd:Option V->Rec)(jJ2:V->List O->R)(i1 o2:Nat)(_n3:Int)(s4:ByteArray)(v5:V)(b6:Bool)(s7:List O):R:=bif b6 then rdT s7 i1 (o2+12) (fun v8=>aL 1 v8 fun m9 e10=>apK e10 [(vS s4)] 16 (ck (!m9) (wrO s7 i1 (o2+12) [((vL true 1 (e10++[(vS s4)])),true)] fun s11=>jJ2 (v5) (s11)))) (fun v8 s12=>aL 1 v8 fun m13 e14=>apK e14 [(vS s4)] 16 (wrO s12 i1 (o2+12) [((vL (m13||!([(vS s4)]).isEmpty) 1 (e14++[(vS s4)])),true)] fun s15=>jJ2 (v5) (s15))) else jJ2 (v5) (s7)
theorem ah3 (Z:Env) i1 o2 n3 s4 v5 b6 s7:ad6 Z 48 .body J1P (J1F i1 o2 n3 s4 v5 b6 s7)=J1b Z.R Z.D (J2 Z) i1 o2 n3 s4 v5 b6 s7:=by kernel_rfl
noncomputable def J2b (_rr:Rec)(_dd:Option V->Rec)(_v1:V)(s2:List O):R:=retR [] s2
theorem am0 (Z:Env) v1 s2:ad6 Z 48 .body J2P (J2F v1 s2)=J2b Z.R Z.D v1 s2:=by kernel_rfl
noncomputable def J3b (_rr:Rec)(_dd:Option V->Rec)(jJ0:Nat->Nat->Int->Int->ByteArray->V->List O->R)(i1 o2:Nat)(n3 n4:Int)(s5:ByteArray)(v6:V)(s7:List O):R:=jJ0 (i1) (o2) (n3) (n4) (s5) (v6) (s7)
theorem ax0 (Z:Env) i1 o2 n3 n4 s5 v6 s7:ad6 Z 48 .body J3P (J3F i1 o2 n3 n4 s5 v6 s7)=J3b Z.R Z.D (J0 Z) i1 o2 n3 n4 s5 v6 s7:=by kernel_rfl
noncomputable def J4b (_rr:Rec)(_dd:Option V->Rec)(jJ5:Nat->Nat->Int->Int->ByteArray->V->List O->R)(i1 o2:Nat)(n3 n4:Int)(s5:ByteArray)(b6:Bool)(s7:List O):R:=bif b6 then wrO s7 i1 ((o2+5)+2) [((vB true),false)] fun s8=>jJ5 (i1) (o2) (n3) (n4) (s5) ((vB b6)) (s8) else jJ5 (i1) (o2) (n3) (n4) (s5) (vN) (s7)
theorem aB0 (Z:Env) i1 o2 n3 n4 s5 b6 s7:ad6 Z 48 .body J4P (J4F i1 o2 n3 n4 s5 b6 s7)=J4b Z.R Z.D (J5 Z) i1 o2 n3 n4 s5 b6 s7:=by kernel_rfl
noncomputable def J5b (_rr:Rec)(_dd:Option V->Rec)(jJ3:Nat->Nat->Int->Int->ByteArray->V->List O->R)(i1 o2:Nat)(n3 n4:Int)(s5:ByteArray)(v6:V)(s7:List O):R:=jJ3 (i1) (o2) (n3) (n4) (s5) (v6) (s7)
theorem aN3 (Z:Env) i1 o2 n3 n4 s5 v6 s7:ad6 Z 48 .body J5P (J5F i1 o2 n3 n4 s5 v6 s7)=J5b Z.R Z.D (J3 Z) i1 o2 n3 n4 s5 v6 s7:=by kernel_rfl
theorem b_of i1 o2 i3 o4 a5 a6 a7 s {o}(h:b RZ.R RZ.D (J0 RZ) (J3 RZ) (J4 RZ) i1 o2 i3 o4 a5 a6 a7 s=some o):RZ.R au3 [(vO i1 o2),(vO i3 o4),(vA [(vI a5),(vS a6)]),(vI a7)] s=some o:=ae0 ((b_eq RZ i1 o2 i3 o4 a5 a6 a7 s).trans h)
theorem am9 i1 o2 n3 n4 s5 v6 s7 {o}(h:J0b RZ.R RZ.D (J1 RZ) i1 o2 n3 n4 s5 v6 s7=some o):J0 RZ i1 o2 n3 n4 s5 v6 s7=some o:=ac1 (by kernel_rfl) ((ak2 RZ i1 o2 n3 n4 s5 v6 s7).trans h)
theorem ak6 i1 o2 n3 s4 v5 b6 s7 {o}(h:J1b RZ.R RZ.D (J2 RZ) i1 o2 n3 s4 v5 b6 s7=some o):J1 RZ i1 o2 n3 s4 v5 b6 s7=some o:=ac1 (by kernel_rfl) ((ah3 RZ i1 o2 n3 s4 v5 b6 s7).trans h)
theorem ar1 v1 s2 {o}(h:J2b RZ.R RZ.D v1 s2=some o):J2 RZ v1 s2=some o:=ac1 (by kernel_rfl) ((am0 RZ v1 s2).trans h)
theorem aB4 i1 o2 n3 n4 s5 v6 s7 {o}(h:J3b RZ.R RZ.D (J0 RZ) i1 o2 n3 n4 s5 v6 s7=some o):J3 RZ i1 o2 n3 n4 s5 v6 s7=some o:=ac1 (by kernel_rfl) ((ax0 RZ i1 o2 n3 n4 s5 v6 s7).trans h)
theorem aH9 i1 o2 n3 n4 s5 b6 s7 {o}(h:J4b RZ.R RZ.D (J5 RZ) i1 o2 n3 n4 s5 b6 s7=some o):J4 RZ i1 o2 n3 n4 s5 b6 s7=some o:=ac1 (by kernel_rfl) ((aB0 RZ i1 o2 n3 n4 s5 b6 s7).trans h)
theorem aY9 i1 o2 n3 n4 s5 v6 s7 {o}(h:J5b RZ.R RZ.D (J3 RZ) i1 o2 n3 n4 s5 v6 s7=some o):J5 RZ i1 o2 n3 n4 s5 v6 s7=some o:=ac1 (by kernel_rfl) ((aN3 RZ i1 o2 n3 n4 s5 v6 s7).trans h)
end ab2
namespace af1
def J0P :List Nat:=[1,1]
def J0F (s1:List O):St:=⟨mkT 13 [],mkA 0 [],0,[],s1,[]⟩
noncomputable def J0 (Z:Env):=fun s1=>Z.X 49 .body J0P (J0F s1)
noncomputable def b (rr:Rec)(_dd:Option V->Rec)(jJ0:List O->R)(_i1 _o2 i3 o4:Nat)(a5:Int)(a6:ByteArray)(a7:Int)(s:List O):R:=bif (a7==(2:Int)) then as9 (rr ak3 [(vO i3 o4),(vA [(vI a5),(vS a6)])] s) (fun v8 s9=>aT v8 fun c10=>aN c10 (jJ0 (s9))) panK else jJ0 (s)
theorem b_eq (Z:Env) i1 o2 i3 o4 a5 a6 a7 s:ah0 Z 49 [(vO i1 o2),(vO i3 o4),(vA [(vI a5),(vS a6)]),(vI a7)] s=b Z.R Z.D (J0 Z) i1 o2 i3 o4 a5 a6 a7 s:=by kernel_rfl
noncomputable def J0b (_rr:Rec)(_dd:Option V->Rec)(s1:List O):R:=retR [] s1
theorem ak2 (Z:Env) s1:ad6 Z 49 .body J0P (J0F s1)=J0b Z.R Z.D s1:=by kernel_rfl
theorem b_of i1 o2 i3 o4 a5 a6 a7 s {o}(h:b RZ.R RZ.D (J0 RZ) i1 o2 i3 o4 a5 a6 a7 s=some o):RZ.R ay2 [(vO i1 o2),(vO i3 o4),(vA [(vI a5),(vS a6)]),(vI a7)] s=some o:=ae0 ((b_eq RZ i1 o2 i3 o4 a5 a6 a7 s).trans h)
theorem am9 s1 {o}(h:J0b RZ.R RZ.D s1=some o):J0 RZ s1=some o:=ac1 (by kernel_rfl) ((ak2 RZ s1).trans h)
end af1
namespace aW4
noncomputable def b (_rr:Rec)(_dd:Option V->Rec)(_i1 _o2 _i3 _o4:Nat)(_a5:Int)(_a6:ByteArray)(_a7:Int)(s:List O):R:=retR [] s
theorem b_eq (Z:Env) i1 o2 i3 o4 a5 a6 a7 s:ah0 Z 50 [(vO i1 o2),(vO i3 o4),(vA [(vI a5),(vS a6)]),(vI a7)] s=b Z.R Z.D i1 o2 i3 o4 a5 a6 a7 s:=by kernel_rfl
theorem b_of i1 o2 i3 o4 a5 a6 a7 s {o}(h:b RZ.R RZ.D i1 o2 i3 o4 a5 a6 a7 s=some o):RZ.R by2 [(vO i1 o2),(vO i3 o4),(vA [(vI a5),(vS a6)]),(vI a7)] s=some o:=ae0 ((b_eq RZ i1 o2 i3 o4 a5 a6 a7 s).trans h)
end aW4
end Go.Proofs.YtnpjififnhjbbaaDoor.E
