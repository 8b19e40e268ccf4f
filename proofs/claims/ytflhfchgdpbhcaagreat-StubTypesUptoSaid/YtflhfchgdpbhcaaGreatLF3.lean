/- It is proved of functions that StubTypes reaches what their evaluation is, in plain words. No condition. -/
import Derived.Test.YtflhfchgdpbhcaaGreatLH
set_option maxRecDepth 100000
set_option maxHeartbeats 40000
namespace Go.Proofs.YtflhfchgdpbhcaaGreat.E
open Go
noncomputable section
abbrev Td0:=B->Int->Y->Y->Int->Int->B->W->B->W->B->W->B->W->Int->Y->Y->Int->Int->B->W->B->W->B->W->B->W->B->R
abbrev Td1:=B->Int->Y->Y->Int->Int->B->W->B->W->B->W->B->W->Int->Y->Y->Int->Int->B->W->B->W->B->W->B->W->Int->Int->R
abbrev Td2:=B->Int->Y->Y->Int->Int->B->W->B->W->B->W->B->W->Int->Y->Y->Int->Int->B->W->B->W->B->W->B->W->Int->Int->Int->Int->Int->R
abbrev Td3:=B->W->V->Int->Int->Lo->R
abbrev Td4:=Int->Y->Y->Int->Int->B->W->B->W->B->W->B->W->R
variable (Z:Env)
namespace aT9
section
variable (a:Y)(c:B)(d:Int)(e f:Y)(g i:Int)(j:B)(k:W)(l:B)(m:W)(n:B)(p:W)(q:B)(r:W)(s:B)(t:W)(u:B)(v:W)
def b:Q->D->Y->B->Int->Y->Y->Int->Int->B->W->B->W->B->W->B->W->B->W->B->W->R:=fun j0 _ a c d e f g i j k l m n p q r s t u v=>ck (aa0 [vA [vS a,vB c,vI d,vS e,vS f,vI g,vI i,vL j 1 k,vL l 9 m,vL n 1 p,vL q 3 r,vL s 11 t,vL u 9 v]]) (cP (j0 ap5 [vA [vS a,vB c,vI d,vS e,vS f,vI g,vI i,vL j 1 k,vL l 9 m,vL n 1 p,vL q 3 r,vL s 11 t,vL u 9 v]] []) (fun P=>aB P fun S=>bif (!S) then retR [vT 0 (⟨#[]⟩:ByteArray) (⟨#[]⟩:ByteArray) 0 0 false [] false [] false [] false [],vI 1] [] else ck (aa0 [vA [vS a,vB c,vI d,vS e,vS f,vI g,vI i,vL j 1 k,vL l 9 m,vL n 1 p,vL q 3 r,vL s 11 t,vL u 9 v]]) (cP (j0 aN2 [vA [vS a,vB c,vI d,vS e,vS f,vI g,vI i,vL j 1 k,vL l 9 m,vL n 1 p,vL q 3 r,vL s 11 t,vL u 9 v]] []) (fun T=>aA T fun X=>aTy X fun w x y z A C E F G H K L M=>(ck (aa0 [vT w x y z A C E F G H K L M]) (aH8 (j0 aD1 [vT w x y z A C E F G H K L M] []) (fun c8=>aT c8 fun c9=>aC c9 fun d0 d1=>aA d0 fun d2=>aTy d2 fun d5 d8 e1 e4 e7 f0 f1 f4 f5 f8 f9 g2 g3=>(aC d1 fun g4 g5=>aI g4 fun g6=>aN g5 (retR [vT d5 d8 e1 e4 e7 f0 f1 f4 f5 f8 f9 g2 g3,vI g6] []))) fun g7=>panK g7 []))) fun g8=>panK g8 [])) fun g9=>panK g9 [])
theorem b_eq:ac7 Z 9 [vA [vS a,vB c,vI d,vS e,vS f,vI g,vI i,vL j 1 k,vL l 9 m,vL n 1 p,vL q 3 r,vL s 11 t,vL u 9 v]] []=b Z.R Z.D a c d e f g i j k l m n p q r s t u v:=by kernel_rfl
theorem b_of {o}(h:b RZ.R RZ.D a c d e f g i j k l m n p q r s t u v=some o):RZ.R aN3 [vA [vS a,vB c,vI d,vS e,vS f,vI g,vI i,vL j 1 k,vL l 9 m,vL n 1 p,vL q 3 r,vL s 11 t,vL u 9 v]] []=some o:=ab7 ((b_eq RZ ..).trans h)
end
end aT9
namespace ac1
section
variable (a:B)(c:Int)(d e:Y)(f g:Int)(i:B)(j:W)(k:B)(l:W)(m:B)(n:W)(p:B)(q:W)(r:Int)(s t:Y)(u v:Int)(w:B)(x:W)(y:B)(z:W)(A:B)(C:W)(E:B)(F:W)(G H L M P:Int)(K:B)(S:Int)(T X:Y)(a0 a1:Int)(a2:B)(a3:W)(a4:B)(a5:W)(a6:B)(a7:W)(a8:B)(a9:W)(c0:Int)(c1 c2:Y)(c3 c4:Int)(c5:B)(c6:W)(c7:B)(c8:W)(c9:B)(d0:W)(d1:B)(d2:W)(d3:B)
def J0P:List Nat:=[0,0,1]
def J0F:St:=⟨mkT 189 [(2,vB a,.no),(3,vQ c d e f g i j k l m n p q,.no),(4,vQ r s t u v w x y z A C E F,.no),(20,vB K,.no)],mkA 0 [],0,[],[],[]⟩
def J0:=Z.X 31 .body J0P (J0F a c d e f g i j k l m n p q r s t u v w x y z A C E F K)
def J1P:List Nat:=[0,0,1,1]
def J1F:St:=⟨mkT 189 [(2,vB a,.no),(3,vQ c d e f g i j k l m n p q,.no),(4,vQ r s t u v w x y z A C E F,.no),(87,vB K,.no)],mkA 0 [],0,[],[],[]⟩
def J1:=Z.X 31 .body J1P (J1F a c d e f g i j k l m n p q r s t u v w x y z A C E F K)
def J2P:List Nat:=[0,0,1,1,1]
def J2F:St:=⟨mkT 189 [(2,vB a,.no),(3,vQ c d e f g i j k l m n p q,.no),(4,vQ r s t u v w x y z A C E F,.no),(103,vB K,.no)],mkA 0 [],0,[],[],[]⟩
def J2:=Z.X 31 .body J2P (J2F a c d e f g i j k l m n p q r s t u v w x y z A C E F K)
def L3P:List Nat:=[0,1,0,1,1,1,1]
def L3F:St:=⟨mkT 189 [(2,vB a,.no),(3,vQ c d e f g i j k l m n p q,.no),(4,vQ r s t u v w x y z A C E F,.no),(106,vI G,.no),(107,vI H,.no)],mkA 0 [],0,[],[],[]⟩
def L3:=Z.X 31 .body L3P (L3F a c d e f g i j k l m n p q r s t u v w x y z A C E F G H)
def L4P:List Nat:=[0,1,1,1,0,0,1,1,0,0,1,0,1,1,1,1]
def L4F:St:=⟨mkT 189 [(2,vB a,.no),(3,vQ c d e f g i j k l m n p q,.no),(4,vQ r s t u v w x y z A C E F,.no),(7,vI G,.no),(106,vI H,.no),(107,vI L,.no),(128,vI M,.no),(129,vI P,.no)],mkA 0 [],0,[],[],[]⟩
def L4:=Z.X 31 .body L4P (L4F a c d e f g i j k l m n p q r s t u v w x y z A C E F G H L M P)
def L5P:List Nat:=[0,1,0,1,1,1,1,1]
def L5F:St:=⟨mkT 189 [(2,vB a,.no),(3,vQ c d e f g i j k l m n p q,.no),(4,vQ r s t u v w x y z A C E F,.no),(153,vI G,.no),(154,vI H,.no)],mkA 0 [],0,[],[],[]⟩
def L5:=Z.X 31 .body L5P (L5F a c d e f g i j k l m n p q r s t u v w x y z A C E F G H)
def L6P:List Nat:=[0,1,0,1,1,1,1,1,1]
def L6F:St:=⟨mkT 189 [(2,vB a,.no),(3,vQ c d e f g i j k l m n p q,.no),(4,vQ r s t u v w x y z A C E F,.no),(171,vI G,.no),(172,vI H,.no)],mkA 0 [],0,[],[],[]⟩
def L6:=Z.X 31 .body L6P (L6F a c d e f g i j k l m n p q r s t u v w x y z A C E F G H)
def b:Q->D->Td0->Int->Y->Y->Int->Int->B->W->B->W->B->W->B->W->Int->Y->Y->Int->Int->B->W->B->W->B->W->B->W->B->R:=fun j _ i S T X a0 a1 a2 a3 a4 a5 a6 a7 a8 a9 c0 c1 c2 c3 c4 c5 c6 c7 c8 c9 d0 d1 d2 d3=>bif (!d3) then ck (aa0 [vT S T X a0 a1 a2 a3 a4 a5 a6 a7 a8 a9]) (cP (j aV6 [vT S T X a0 a1 a2 a3 a4 a5 a6 a7 a8 a9] []) (fun a=>aB a fun c=>bif c then ck (aa0 [vT c0 c1 c2 c3 c4 c5 c6 c7 c8 c9 d0 d1 d2]) (cP (j aV6 [vT c0 c1 c2 c3 c4 c5 c6 c7 c8 c9 d0 d1 d2] []) (fun d=>aB d fun e=>i d3 S T X a0 a1 a2 a3 a4 a5 a6 a7 a8 a9 c0 c1 c2 c3 c4 c5 c6 c7 c8 c9 d0 d1 d2 e) fun f=>panK f []) else i d3 S T X a0 a1 a2 a3 a4 a5 a6 a7 a8 a9 c0 c1 c2 c3 c4 c5 c6 c7 c8 c9 d0 d1 d2 false) fun g=>panK g []) else i d3 S T X a0 a1 a2 a3 a4 a5 a6 a7 a8 a9 c0 c1 c2 c3 c4 c5 c6 c7 c8 c9 d0 d1 d2 false
theorem b_eq:ac7 Z 31 [vT S T X a0 a1 a2 a3 a4 a5 a6 a7 a8 a9,vT c0 c1 c2 c3 c4 c5 c6 c7 c8 c9 d0 d1 d2,vB d3] []=b Z.R Z.D (J0 Z) S T X a0 a1 a2 a3 a4 a5 a6 a7 a8 a9 c0 c1 c2 c3 c4 c5 c6 c7 c8 c9 d0 d1 d2 d3:=by kernel_rfl
def J0b:Q->D->Td0->Td0:=fun _ _ G a c d e f g i j k l m n p q r s t u v w x y z A C E F K=>bif K then retR [vB (d.toList==s.toList)] [] else bif (c !=r) then G a c d e f g i j k l m n p q r s t u v w x y z A C E F true else bif (!(d.toList==s.toList)) then G a c d e f g i j k l m n p q r s t u v w x y z A C E F true else bif (f !=u) then G a c d e f g i j k l m n p q r s t u v w x y z A C E F true else bif (g !=v) then G a c d e f g i j k l m n p q r s t u v w x y z A C E F true else bif ((j.length:Int) !=(x.length:Int)) then G a c d e f g i j k l m n p q r s t u v w x y z A C E F true else bif ((l.length:Int) !=(z.length:Int)) then G a c d e f g i j k l m n p q r s t u v w x y z A C E F true else bif ((n.length:Int) !=(C.length:Int)) then G a c d e f g i j k l m n p q r s t u v w x y z A C E F true else G a c d e f g i j k l m n p q r s t u v w x y z A C E F ((q.length:Int) !=(F.length:Int))
theorem ab9:ac5 Z 31 .body J0P (J0F a c d e f g i j k l m n p q r s t u v w x y z A C E F K)=J0b Z.R Z.D (J1 Z) a c d e f g i j k l m n p q r s t u v w x y z A C E F K:=by kernel_rfl
def J1b:Q->D->Td0->Td0:=fun P _ M a c d e f g i j k l m n p q r s t u v w x y z A C E F K=>bif K then retR [vB false] [] else bif a then bif (!(e.toList==t.toList)) then M a c d e f g i j k l m n p q r s t u v w x y z A C E F true else ck (aa0 [vL i 1 j,vL w 1 x]) (cP (P aU8 [vL i 1 j,vL w 1 x] []) (fun G=>aB G fun H=>M a c d e f g i j k l m n p q r s t u v w x y z A C E F (!H)) fun L=>panK L []) else M a c d e f g i j k l m n p q r s t u v w x y z A C E F false
theorem ak2:ac5 Z 31 .body J1P (J1F a c d e f g i j k l m n p q r s t u v w x y z A C E F K)=J1b Z.R Z.D (J2 Z) a c d e f g i j k l m n p q r s t u v w x y z A C E F K:=by kernel_rfl
def J2b:Q->D->Td1->Td0:=fun _ _ G a c d e f g i j k l m n p q r s t u v w x y z A C E F K=>bif K then retR [vB false] [] else G a c d e f g i j k l m n p q r s t u v w x y z A C E F (n.length:Int) z0
theorem ah0:ac5 Z 31 .body J2P (J2F a c d e f g i j k l m n p q r s t u v w x y z A C E F K)=J2b Z.R Z.D (L3 Z) a c d e f g i j k l m n p q r s t u v w x y z A C E F K:=by kernel_rfl
def L3b:Q->D->Td2->Td1->Td1:=fun _ _ a5 a6 a c d e f g i j k l m n p q r s t u v w x y z A C E F G H=>bif (decide (H<G)) then idxK n H fun K=>aC (V.cells K) fun L M=>aL 1 L fun _ P=>aN M (idxK C H fun S=>aC (V.cells S) fun T X=>aL 1 T fun _ a0=>aN X (bif ((P.length:Int) !=(a0.length:Int)) then retR [vB false] [] else idxK n H fun a1=>aC (V.cells a1) fun a2 a3=>aL 1 a2 fun _ a4=>aN a3 (a5 a c d e f g i j k l m n p q r s t u v w x y z A C E F H G H (a4.length:Int) z0))) else a6 a c d e f g i j k l m n p q r s t u v w x y z A C E F (q.length:Int) z0
theorem aV1:ae4 Z 31 .body L3P (L3F a c d e f g i j k l m n p q r s t u v w x y z A C E F G H)=L3b Z.R Z.D (L4 Z) (L5 Z) a c d e f g i j k l m n p q r s t u v w x y z A C E F G H:=by kernel_rfl
def L4b:Q->D->Td1->Td2->Td2:=fun _ _ c2 c3 a c d e f g i j k l m n p q r s t u v w x y z A C E F G H L M P=>bif (decide (P<M)) then idxK n G fun K=>aC (V.cells K) fun S T=>aL 1 S fun _ X=>aN T (idxK X P fun a0=>aC (V.cells a0) fun a1 a2=>aI a1 fun a3=>aN a2 (idxK C G fun a4=>aC (V.cells a4) fun a5 a6=>aL 1 a5 fun _ a7=>aN a6 (idxK a7 P fun a8=>aC (V.cells a8) fun a9 c0=>aI a9 fun c1=>aN c0 (bif (a3 !=c1) then retR [vB false] [] else c3 a c d e f g i j k l m n p q r s t u v w x y z A C E F G H L M (w6 (P+z1)))))) else c2 a c d e f g i j k l m n p q r s t u v w x y z A C E F H (w6 (L+z1))
theorem aF3:ae4 Z 31 .body L4P (L4F a c d e f g i j k l m n p q r s t u v w x y z A C E F G H L M P)=L4b Z.R Z.D (L3 Z) (L4 Z) a c d e f g i j k l m n p q r s t u v w x y z A C E F G H L M P:=by kernel_rfl
def L5b:Q->D->Td1->Td1->Td1:=fun _ _ c3 c4 a c d e f g i j k l m n p q r s t u v w x y z A C E F G H=>bif (decide (H<G)) then idxK q H fun K=>aC (V.cells K) fun L M=>aS L fun P=>aC M fun S T=>aI S fun X=>aC T fun a0 a1=>aB a0 fun a2=>aN a1 (idxK F H fun a3=>aC (V.cells a3) fun a4 a5=>aS a4 fun a6=>aC a5 fun a7 a8=>aI a7 fun a9=>aC a8 fun c0 c1=>aB c0 fun c2=>aN c1 (bif (!((P==a6)&&((X==a9)&&((a2==c2)&&true)))) then retR [vB false] [] else c3 a c d e f g i j k l m n p q r s t u v w x y z A C E F G (w6 (H+z1)))) else c4 a c d e f g i j k l m n p q r s t u v w x y z A C E F (l.length:Int) z0
theorem L5b_eq:ae4 Z 31 .body L5P (L5F a c d e f g i j k l m n p q r s t u v w x y z A C E F G H)=L5b Z.R Z.D (L5 Z) (L6 Z) a c d e f g i j k l m n p q r s t u v w x y z A C E F G H:=by kernel_rfl
def L6b:Q->D->Td1->Td1:=fun j0 _ g9 a c d e f g i j k l m n p q r s t u v w x y z A C E F G H=>bif (decide (H<G)) then idxK l H fun c9=>aTy (V.cells c9) fun K L M P S T X a0 a1 a2 a3 a4 a5=>(idxK z H fun e8=>aTy (V.cells e8) fun a6 a7 a8 a9 c0 c1 c2 c3 c4 c5 c6 c7 c8=>(ck (aa0 [vT K L M P S T X a0 a1 a2 a3 a4 a5,vT a6 a7 a8 a9 c0 c1 c2 c3 c4 c5 c6 c7 c8,vB a]) (cP (j0 ax0 [vT K L M P S T X a0 a1 a2 a3 a4 a5,vT a6 a7 a8 a9 c0 c1 c2 c3 c4 c5 c6 c7 c8,vB a] []) (fun g7=>aB g7 fun g8=>bif (!g8) then retR [vB false] [] else g9 a c d e f g i j k l m n p q r s t u v w x y z A C E F G (w6 (H+z1))) fun _=>none))) else retR [vB true] []
theorem L6b_eq:ae4 Z 31 .body L6P (L6F a c d e f g i j k l m n p q r s t u v w x y z A C E F G H)=L6b Z.R Z.D (L6 Z) a c d e f g i j k l m n p q r s t u v w x y z A C E F G H:=by kernel_rfl
theorem b_of {o}(h:b RZ.R RZ.D (J0 RZ) S T X a0 a1 a2 a3 a4 a5 a6 a7 a8 a9 c0 c1 c2 c3 c4 c5 c6 c7 c8 c9 d0 d1 d2 d3=some o):RZ.R ax0 [vT S T X a0 a1 a2 a3 a4 a5 a6 a7 a8 a9,vT c0 c1 c2 c3 c4 c5 c6 c7 c8 c9 d0 d1 d2,vB d3] []=some o:=ab7 ((b_eq RZ ..).trans h)
theorem ad0 {o}(h:J0b RZ.R RZ.D (J1 RZ) a c d e f g i j k l m n p q r s t u v w x y z A C E F K=some o):J0 RZ a c d e f g i j k l m n p q r s t u v w x y z A C E F K=some o:=aa9 (by kernel_rfl) ((ab9 RZ ..).trans h)
theorem an7 {o}(h:J1b RZ.R RZ.D (J2 RZ) a c d e f g i j k l m n p q r s t u v w x y z A C E F K=some o):J1 RZ a c d e f g i j k l m n p q r s t u v w x y z A C E F K=some o:=aa9 (by kernel_rfl) ((ak2 RZ ..).trans h)
theorem ak5 {o}(h:J2b RZ.R RZ.D (L3 RZ) a c d e f g i j k l m n p q r s t u v w x y z A C E F K=some o):J2 RZ a c d e f g i j k l m n p q r s t u v w x y z A C E F K=some o:=aa9 (by kernel_rfl) ((ah0 RZ ..).trans h)
theorem aT4 {o}(h:L3b RZ.R RZ.D (L4 RZ) (L5 RZ) a c d e f g i j k l m n p q r s t u v w x y z A C E F G H=some o):L3 RZ a c d e f g i j k l m n p q r s t u v w x y z A C E F G H=some o:=ac9 ((aV1 RZ ..).trans h)
theorem aE4 {o}(h:L4b RZ.R RZ.D (L3 RZ) (L4 RZ) a c d e f g i j k l m n p q r s t u v w x y z A C E F G H L M P=some o):L4 RZ a c d e f g i j k l m n p q r s t u v w x y z A C E F G H L M P=some o:=ac9 ((aF3 RZ ..).trans h)
theorem L5_of {o}(h:L5b RZ.R RZ.D (L5 RZ) (L6 RZ) a c d e f g i j k l m n p q r s t u v w x y z A C E F G H=some o):L5 RZ a c d e f g i j k l m n p q r s t u v w x y z A C E F G H=some o:=ac9 ((L5b_eq RZ ..).trans h)
theorem L6_of {o}(h:L6b RZ.R RZ.D (L6 RZ) a c d e f g i j k l m n p q r s t u v w x y z A C E F G H=some o):L6 RZ a c d e f g i j k l m n p q r s t u v w x y z A C E F G H=some o:=ac9 ((L6b_eq RZ ..).trans h)
end
end ac1
namespace ab5
section
variable (a:B)(d e:W)(c:V)(f:Lo)(g i:Int)(j:Lo)
def L0P:List Nat:=[0,1,0,1]
def L0F:St:=⟨mkT 19 [(0,vL a 9 e,.no),(1,c,.no),(7,vI g,.no),(8,vI i,.no)],mkA 0 [],0,[],j,[]⟩
def L0:=Z.X 40 .body L0P (L0F a e c g i j)
def b:Q->D->Td3->B->W->V->Lo->R:=fun _ _ e a d c f=>e a d c (d.length:Int) z0 f
theorem b_eq:ac7 Z 40 [vL a 9 d,c] f=b Z.R Z.D (L0 Z) a d c f:=by kernel_rfl
def L0b:Q->D->Td3->Td3:=fun a6 _ a5 a e c g i j=>bif (decide (i<g)) then idxK e i fun f=>aTy (V.cells f) fun m q t w z E F K L S T a1 a2=>(aV9 a6 c [vT m q t w z E F K L S T a1 a2] j (fun a3 d=>aB a3 fun a4=>bif a4 then retR [vI i] d else a5 a e c g (w6 (i+z1)) d) panK) else retR [vI (-1)] j
theorem ag9:ae4 Z 40 .body L0P (L0F a e c g i j)=L0b Z.R Z.D (L0 Z) a e c g i j:=by kernel_rfl
theorem b_of {o}(h:b RZ.R RZ.D (L0 RZ) a d c f=some o):RZ.R aj5 [vL a 9 d,c] f=some o:=ab7 ((b_eq RZ ..).trans h)
theorem ag6 {o}(h:L0b RZ.R RZ.D (L0 RZ) a e c g i j=some o):L0 RZ a e c g i j=some o:=ac9 ((ag9 RZ ..).trans h)
end
end ab5
namespace aC2
section
variable (a:B)(c:Int)
def J0P:List Nat:=[0,1]
def J0F:St:=⟨mkT 9 [(2,vB a,.no)],mkA 0 [],0,[],[],[]⟩
def J0:=Z.X 53 .body J0P (J0F a)
def b:Q->D->(B->R)->Int->R:=fun _ _ a c=>bif (decide (c>=48)) then a (decide (c<=57)) else a false
theorem b_eq:ac7 Z 53 [vU c] []=b Z.R Z.D (J0 Z) c:=by kernel_rfl
def J0b:Q->D->B->R:=fun _ _ a=>retR [vB a] []
theorem ab9:ac5 Z 53 .body J0P (J0F a)=J0b Z.R Z.D a:=by kernel_rfl
theorem b_of {o}(h:b RZ.R RZ.D (J0 RZ) c=some o):RZ.R aQ9 [vU c] []=some o:=ab7 ((b_eq RZ ..).trans h)
theorem ad0 {o}(h:J0b RZ.R RZ.D a=some o):J0 RZ a=some o:=aa9 (by kernel_rfl) ((ab9 RZ ..).trans h)
end
end aC2
namespace aK7
section
variable (a:B)(c:Int)(d e:Y)(f g:Int)(i:B)(j:W)(k:B)(l:W)(m:B)(n:W)(p:B)(q:W)
def J0P:List Nat:=[0,1]
def J0F:St:=⟨mkT 11 [(2,vB a,.no)],mkA 0 [],0,[],[],[]⟩
def J0:=Z.X 63 .body J0P (J0F a)
def b:Q->D->(B->R)->Td4:=fun x _ w _ d e _ _ _ _ _ _ _ _ _ _=>cP (x aZ2 [vS d] []) (fun a=>aB a fun r=>bif r then cP (x at7 [vS e] []) (fun s=>aB s fun t=>w t) (fun u=>panK u []) else w false) fun v=>panK v []
theorem b_eq:ac7 Z 63 [vT c d e f g i j k l m n p q] []=b Z.R Z.D (J0 Z) c d e f g i j k l m n p q:=by kernel_rfl
def J0b:Q->D->B->R:=fun _ _ a=>retR [vB a] []
theorem ab9:ac5 Z 63 .body J0P (J0F a)=J0b Z.R Z.D a:=by kernel_rfl
theorem b_of {o}(h:b RZ.R RZ.D (J0 RZ) c d e f g i j k l m n p q=some o):RZ.R ar7 [vT c d e f g i j k l m n p q] []=some o:=ab7 ((b_eq RZ ..).trans h)
theorem ad0 {o}(h:J0b RZ.R RZ.D a=some o):J0 RZ a=some o:=aa9 (by kernel_rfl) ((ab9 RZ ..).trans h)
end
end aK7
namespace aK5
section
variable (a:B)(c:Int)
def J0P:List Nat:=[0,1]
def J0F:St:=⟨mkT 29 [(2,vB a,.no)],mkA 0 [],0,[],[],[]⟩
def J0:=Z.X 91 .body J0P (J0F a)
def b:Q->D->(B->R)->Int->R:=fun _ _ a c=>bif (decide (c>32)) then bif (decide (c<127)) then bif (c !=(93:Int)) then bif (c !=(44:Int)) then bif (c !=(125:Int)) then bif (c !=(59:Int)) then a (c !=(62:Int)) else a false else a false else a false else a false else a false else a false
theorem b_eq:ac7 Z 91 [vU c] []=b Z.R Z.D (J0 Z) c:=by kernel_rfl
def J0b:Q->D->B->R:=fun _ _ a=>retR [vB a] []
theorem ab9:ac5 Z 91 .body J0P (J0F a)=J0b Z.R Z.D a:=by kernel_rfl
theorem b_of {o}(h:b RZ.R RZ.D (J0 RZ) c=some o):RZ.R aU6 [vU c] []=some o:=ab7 ((b_eq RZ ..).trans h)
theorem ad0 {o}(h:J0b RZ.R RZ.D a=some o):J0 RZ a=some o:=aa9 (by kernel_rfl) ((ab9 RZ ..).trans h)
end
end aK5
namespace ae9
section
variable (a:B)(c:Int)(d e:Y)(f g:Int)(i:B)(j:W)(k:B)(l:W)(m:B)(n:W)(p:B)(q:W)
def J0P:List Nat:=[1,0,0,1,0,1]
def J0F:St:=⟨mkT 12 [(5,vB a,.no)],mkA 0 [],0,[],[],[]⟩
def J0:=Z.X 103 .body J0P (J0F a)
def J1P:List Nat:=[1,1,1,0,0,1,0,1]
def J1F:St:=⟨mkT 12 [(5,vB a,.no)],mkA 0 [],0,[],[],[]⟩
def J1:=Z.X 103 .body J1P (J1F a)
def J2P:List Nat:=[1,1,1,1,1,0,0,1,0,1]
def J2F:St:=⟨mkT 12 [(5,vB a,.no)],mkA 0 [],0,[],[],[]⟩
def J2:=Z.X 103 .body J2P (J2F a)
def J3P:List Nat:=[1,1,1,1,1,1,1,0,0,1,0,1]
def J3F:St:=⟨mkT 12 [(5,vB a,.no)],mkA 0 [],0,[],[],[]⟩
def J3:=Z.X 103 .body J3P (J3F a)
def J4P:List Nat:=[1,1,1,1,1,1,1,1,1,0,0,1,0,1]
def J4F:St:=⟨mkT 12 [(5,vB a,.no)],mkA 0 [],0,[],[],[]⟩
def J4:=Z.X 103 .body J4P (J4F a)
def b:Q->D->(B->R)->(B->R)->(B->R)->(B->R)->(B->R)->Td4:=fun _ _ a r s t u c _ _ _ _ _ _ _ _ _ _ _ _=>bif (c==z1) then a (c==z1) else bif (c==(2:Int)) then r (c==(2:Int)) else bif (c==(3:Int)) then s (c==(3:Int)) else bif (c==(4:Int)) then t (c==(4:Int)) else bif (c==(5:Int)) then u (c==(5:Int)) else u (c==(9:Int))
theorem b_eq:ac7 Z 103 [vT c d e f g i j k l m n p q] []=b Z.R Z.D (J0 Z) (J1 Z) (J2 Z) (J3 Z) (J4 Z) c d e f g i j k l m n p q:=by kernel_rfl
def J0b:Q->D->B->R:=fun _ _ a=>bif a then retR [vB true] [] else retR [vB false] []
theorem ab9:ac5 Z 103 .body J0P (J0F a)=J0b Z.R Z.D a:=by kernel_rfl
def J1b:Q->D->(B->R)->B->R:=fun _ _ c a=>c a
theorem ak2:ac5 Z 103 .body J1P (J1F a)=J1b Z.R Z.D (J0 Z) a:=by kernel_rfl
def J2b:Q->D->(B->R)->B->R:=fun _ _ c a=>c a
theorem ah0:ac5 Z 103 .body J2P (J2F a)=J2b Z.R Z.D (J1 Z) a:=by kernel_rfl
def J3b:Q->D->(B->R)->B->R:=fun _ _ c a=>c a
theorem aw4:ac5 Z 103 .body J3P (J3F a)=J3b Z.R Z.D (J2 Z) a:=by kernel_rfl
def J4b:Q->D->(B->R)->B->R:=fun _ _ c a=>c a
theorem aF4:ac5 Z 103 .body J4P (J4F a)=J4b Z.R Z.D (J3 Z) a:=by kernel_rfl
theorem b_of {o}(h:b RZ.R RZ.D (J0 RZ) (J1 RZ) (J2 RZ) (J3 RZ) (J4 RZ) c d e f g i j k l m n p q=some o):RZ.R aN4 [vT c d e f g i j k l m n p q] []=some o:=ab7 ((b_eq RZ ..).trans h)
theorem ad0 {o}(h:J0b RZ.R RZ.D a=some o):J0 RZ a=some o:=aa9 (by kernel_rfl) ((ab9 RZ ..).trans h)
theorem an7 {o}(h:J1b RZ.R RZ.D (J0 RZ) a=some o):J1 RZ a=some o:=aa9 (by kernel_rfl) ((ak2 RZ ..).trans h)
theorem ak5 {o}(h:J2b RZ.R RZ.D (J1 RZ) a=some o):J2 RZ a=some o:=aa9 (by kernel_rfl) ((ah0 RZ ..).trans h)
theorem aH9 {o}(h:J3b RZ.R RZ.D (J2 RZ) a=some o):J3 RZ a=some o:=aa9 (by kernel_rfl) ((aw4 RZ ..).trans h)
theorem aS3 {o}(h:J4b RZ.R RZ.D (J3 RZ) a=some o):J4 RZ a=some o:=aa9 (by kernel_rfl) ((aF4 RZ ..).trans h)
end
end ae9
end
end Go.Proofs.YtflhfchgdpbhcaaGreat.E
