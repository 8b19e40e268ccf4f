/- It is proved of functions that StubTypes reaches what their evaluation is, in plain words. No condition. -/
import Derived.Test.YtflhfchgdpbhcaaGreatLH
set_option maxRecDepth 100000
set_option maxHeartbeats 40000
namespace Go.Proofs.YtflhfchgdpbhcaaGreat.E
open Go
noncomputable section
abbrev Tb0:=Y->B->Int->Y->Y->Int->Int->B->W->B->W->B->W->B->W->B->W->B->W->R
abbrev Tb1:=Y->B->Int->Y->Y->Int->Int->B->W->B->W->B->W->B->W->B->W->B->W->Y->B->R
abbrev Tb2:=Y->B->Int->Y->Y->Int->Int->B->W->B->W->B->W->B->W->B->W->B->W->Y->R
abbrev Tb3:=Y->B->Int->Y->Y->Int->Int->B->W->B->W->B->W->B->W->B->W->B->W->B->R
abbrev Tb4:=Y->B->Int->Y->Y->Int->Int->B->W->B->W->B->W->B->W->B->W->B->W->Int->R
abbrev Tb5:=Y->B->Int->Y->Y->Int->Int->B->W->B->W->B->W->B->W->B->W->B->W->Int->B->W->Int->Int->Lo->R
abbrev Tb6:=Y->B->Int->Y->Y->Int->Int->B->W->B->W->B->W->B->W->B->W->B->W->Int->Nat->B->W->Int->Int->B->Lo->R
abbrev Tb7:=Y->B->Int->Y->Y->Int->Int->B->W->B->W->B->W->B->W->B->W->B->W->Int->B->W->Int->Int->B->Lo->R
abbrev Tb8:=B->W->V->Int->Int->Lo->R
abbrev Tb9:=Y->Int->Int->R
variable (Z:Env)
namespace aN0
section
variable (a:Y)(c:B)(d:Int)(e f:Y)(g i:Int)(j:B)(k:W)(l:B)(m:W)(n:B)(p:W)(q:B)(r:W)(s:B)(t:W)(u:B)(v:W)
def b:Q->D->Tb0:=fun j0 _ a c d e f g i j k l m n p q r s t u v=>ck (aa0 [vA [vS a,vB c,vI d,vS e,vS f,vI g,vI i,vL j 1 k,vL l 9 m,vL n 1 p,vL q 3 r,vL s 11 t,vL u 9 v]]) (cP (j0 ap5 [vA [vS a,vB c,vI d,vS e,vS f,vI g,vI i,vL j 1 k,vL l 9 m,vL n 1 p,vL q 3 r,vL s 11 t,vL u 9 v]] []) (fun P=>aB P fun S=>bif (!S) then retR [vT 0 (⟨#[]⟩:ByteArray) (⟨#[]⟩:ByteArray) 0 0 false [] false [] false [] false [],vI 1] [] else ck (aa0 [vA [vS a,vB c,vI d,vS e,vS f,vI g,vI i,vL j 1 k,vL l 9 m,vL n 1 p,vL q 3 r,vL s 11 t,vL u 9 v]]) (cP (j0 aE9 [vA [vS a,vB c,vI d,vS e,vS f,vI g,vI i,vL j 1 k,vL l 9 m,vL n 1 p,vL q 3 r,vL s 11 t,vL u 9 v]] []) (fun T=>aA T fun X=>aTy X fun w x y z A C E F G H K L M=>(ck (aa0 [vT w x y z A C E F G H K L M]) (aH8 (j0 aD1 [vT w x y z A C E F G H K L M] []) (fun c8=>aT c8 fun c9=>aC c9 fun d0 d1=>aA d0 fun d2=>aTy d2 fun d5 d8 e1 e4 e7 f0 f1 f4 f5 f8 f9 g2 g3=>(aC d1 fun g4 g5=>aI g4 fun g6=>aN g5 (retR [vT d5 d8 e1 e4 e7 f0 f1 f4 f5 f8 f9 g2 g3,vI g6] []))) fun g7=>panK g7 []))) fun g8=>panK g8 [])) fun g9=>panK g9 [])
theorem b_eq:ac7 Z 7 [vA [vS a,vB c,vI d,vS e,vS f,vI g,vI i,vL j 1 k,vL l 9 m,vL n 1 p,vL q 3 r,vL s 11 t,vL u 9 v]] []=b Z.R Z.D a c d e f g i j k l m n p q r s t u v:=by kernel_rfl
theorem b_of {o}(h:b RZ.R RZ.D a c d e f g i j k l m n p q r s t u v=some o):RZ.R aF0 [vA [vS a,vB c,vI d,vS e,vS f,vI g,vI i,vL j 1 k,vL l 9 m,vL n 1 p,vL q 3 r,vL s 11 t,vL u 9 v]] []=some o:=ab7 ((b_eq RZ ..).trans h)
end
end aN0
namespace aa6
section
variable (i:Y)(j:B)(k:Int)(l m:Y)(n p:Int)(F:B)(G:Lo)(H:Y)(K:B)(L:Int)(M P:Y)(S T:Int)(a:B)(X q:W)(c:B)(a0 r:W)(d:B)(a1 s:W)(e:B)(a2 t:W)(f:B)(a3 u:W)(g:B)(a4 v:W)(E:Y)(a5:B)(w:Int)(y:B)(z:W)(A:Int)(a6:Nat)(a7:B)(a8:W)(x:Int)(C:Lo)(a9:Int)(c0:B)(c1:Lo)(c2:B)(c3:Lo)(c4:B)
def J0P:List Nat:=[0,0,1,1]
def J0F:St:=⟨mkT 134 [(1,vR [vS i,vB j,vI k,vS l,vS m,vI n,vI p,vL a 1 q,vL c 9 r,vL d 1 s,vL e 3 t,vL f 11 u,vL g 9 v],.no),(3,vS E,.no),(17,vB a5,.no)],mkA 0 [],0,[],[],[]⟩
def J0:=Z.X 10 .body J0P (J0F i j k l m n p a q c r d s e t f u g v E a5)
def J1P:List Nat:=[1,0,1,1]
def J1F:St:=⟨mkT 134 [(1,vR [vS i,vB j,vI k,vS l,vS m,vI n,vI p,vL a 1 q,vL c 9 r,vL d 1 s,vL e 3 t,vL f 11 u,vL g 9 v],.no),(3,vS E,.no)],mkA 0 [],0,[],[],[]⟩
def J1:=Z.X 10 .body J1P (J1F i j k l m n p a q c r d s e t f u g v E)
def J2P:List Nat:=[0,0,1,1,1]
def J2F:St:=⟨mkT 134 [(1,vR [vS i,vB j,vI k,vS l,vS m,vI n,vI p,vL a 1 q,vL c 9 r,vL d 1 s,vL e 3 t,vL f 11 u,vL g 9 v],.no),(40,vB c4,.no)],mkA 0 [],0,[],[],[]⟩
def J2:=Z.X 10 .body J2P (J2F i j k l m n p a q c r d s e t f u g v c4)
def J3P:List Nat:=[1,0,1,1,1,1,1]
def J3F:St:=⟨mkT 134 [(1,vR [vS i,vB j,vI k,vS l,vS m,vI n,vI p,vL a 1 q,vL c 9 r,vL d 1 s,vL e 3 t,vL f 11 u,vL g 9 v],.no),(4,vI w,.no)],mkA 0 [],0,[],[],[]⟩
def J3:=Z.X 10 .body J3P (J3F i j k l m n p a q c r d s e t f u g v w)
def L4P:List Nat:=[0,1,0,1,1,1,1,1,1]
def L4F:St:=⟨mkT 134 [(1,vR [vS i,vB j,vI k,vS l,vS m,vI n,vI p,vL a 1 q,vL c 9 r,vL d 1 s,vL e 3 t,vL f 11 u,vL g 9 v],.no),(4,vI w,.no),(48,vL y 11 z,.no),(49,vI A,.no),(50,vI x,.no)],mkA 0 [],0,[],C,[]⟩
def L4:=Z.X 10 .body L4P (L4F i j k l m n p a q c r d s e t f u g v w y z A x C)
def J5P:List Nat:=[0,0,1,0,0,1,1,0,0,1,0,1,1,1,1,1,1]
def J5F:St:=⟨mkT 134 [(1,vR [vS i,vB j,vI k,vS l,vS m,vI n,vI p,vL a 1 q,vL c 9 r,vL d 1 s,vL e 3 t,vL f 11 u,vL g 9 v],.no),(4,vI w,.no),(6,vO a6 0,.no),(48,vL a7 11 a8,.no),(49,vI x,.no),(50,vI a9,.no),(87,vB c0,.no)],mkA 0 [],0,[],c1,[]⟩
def J5:=Z.X 10 .body J5P (J5F i j k l m n p a q c r d s e t f u g v w a6 a7 a8 x a9 c0 c1)
def J6P:List Nat:=[1,1,1,0,0,1,1,0,0,1,0,1,1,1,1,1,1]
def J6F:St:=⟨mkT 134 [(1,vR [vS i,vB j,vI k,vS l,vS m,vI n,vI p,vL a 1 q,vL c 9 r,vL d 1 s,vL e 3 t,vL f 11 u,vL g 9 v],.no),(4,vI w,.no),(48,vL y 11 z,.no),(49,vI A,.no),(50,vI x,.no)],mkA 0 [],0,[],C,[]⟩
def J6:=Z.X 10 .body J6P (J6F i j k l m n p a q c r d s e t f u g v w y z A x C)
def L7P:List Nat:=[0,1,0,1,1,1,1,1,1,1]
def L7F:St:=⟨mkT 134 [(1,vR [vS i,vB j,vI k,vS l,vS m,vI n,vI p,vL a 1 q,vL c 9 r,vL d 1 s,vL e 3 t,vL f 11 u,vL g 9 v],.no),(4,vI w,.no),(95,vL y 9 z,.no),(96,vI A,.no),(97,vI x,.no)],mkA 0 [],0,[],C,[]⟩
def L7:=Z.X 10 .body L7P (L7F i j k l m n p a q c r d s e t f u g v w y z A x C)
def J8P:List Nat:=[0,1,0,0,1,1,0,0,1,0,1,1,1,1,1,1,1]
def J8F:St:=⟨mkT 134 [(1,vR [vS i,vB j,vI k,vS l,vS m,vI n,vI p,vL a 1 q,vL c 9 r,vL d 1 s,vL e 3 t,vL f 11 u,vL g 9 v],.no),(4,vI w,.no),(95,vL y 9 z,.no),(96,vI A,.no),(97,vI x,.no),(117,vB c2,.no)],mkA 0 [],0,[],c3,[]⟩
def J8:=Z.X 10 .body J8P (J8F i j k l m n p a q c r d s e t f u g v w y z A x c2 c3)
def J9P:List Nat:=[0,1,1,1,1,1,1,1,1]
def J9F:St:=⟨mkT 134 [(2,vB F,.no)],mkA 0 [],0,[],G,[]⟩
def J9:=Z.X 10 .body J9P (J9F F G)
def b:Q->D->Tb1->Tb0:=fun _ _ j H K L M P S T a X c a0 d a1 e a2 f a3 g a4=>bif (!(H.toList==(⟨#[]⟩:ByteArray).toList)) then aT3 H z0 fun i=>j H K L M P S T a X c a0 d a1 e a2 f a3 g a4 H (i==(95:Int)) else j H K L M P S T a X c a0 d a1 e a2 f a3 g a4 H false
theorem b_eq:ac7 Z 10 [vA [vS H,vB K,vI L,vS M,vS P,vI S,vI T,vL a 1 X,vL c 9 a0,vL d 1 a1,vL e 3 a2,vL f 11 a3,vL g 9 a4]] []=b Z.R Z.D (J0 Z) H K L M P S T a X c a0 d a1 e a2 f a3 g a4:=by kernel_rfl
def J0b:Q->D->Tb2->Tb1:=fun _ _ w i j k l m n p a q c r d s e t f u g v E a5=>bif a5 then ck (decide (0<=z1)&&(decide (z1<=(E.size:Int))&&decide ((E.size:Int)<=(E.size:Int)))) (w i j k l m n p a q c r d s e t f u g v (E.extract z1.toNat (E.size:Int).toNat)) else w i j k l m n p a q c r d s e t f u g v E
theorem ab9:ac5 Z 10 .body J0P (J0F i j k l m n p a q c r d s e t f u g v E a5)=J0b Z.R Z.D (J1 Z) i j k l m n p a q c r d s e t f u g v E a5:=by kernel_rfl
def J1b:Q->D->Tb3->Tb2:=fun G _ F i j k l m n p a q c r d s e t f u g v E=>cP (G at7 [vS E] []) (fun w=>aB w fun x=>bif (!x) then F i j k l m n p a q c r d s e t f u g v true else ck (aa0 [vT k l m n p a q c r d s e t,vB true]) (cP (G aH2 [vT k l m n p a q c r d s e t,vB true] []) (fun y=>aB y fun z=>bif (!z) then F i j k l m n p a q c r d s e t f u g v true else bif (decide ((u.length:Int)>24)) then F i j k l m n p a q c r d s e t f u g v true else F i j k l m n p a q c r d s e t f u g v (decide ((v.length:Int)>24))) fun A=>panK A [])) fun C=>panK C []
theorem ak2:ac5 Z 10 .body J1P (J1F i j k l m n p a q c r d s e t f u g v E)=J1b Z.R Z.D (J2 Z) i j k l m n p a q c r d s e t f u g v E:=by kernel_rfl
def J2b:Q->D->Tb4->Tb3:=fun _ _ w i j k l m n p a q c r d s e t f u g v c4=>bif c4 then retR [vB false] [] else bif (k !=z0) then w i j k l m n p a q c r d s e t f u g v z1 else w i j k l m n p a q c r d s e t f u g v z0
theorem ah0:ac5 Z 10 .body J2P (J2F i j k l m n p a q c r d s e t f u g v c4)=J2b Z.R Z.D (J3 Z) i j k l m n p a q c r d s e t f u g v c4:=by kernel_rfl
def J3b:Q->D->Tb5->Tb4:=fun _ _ x i j k l m n p a q c r d s e t f u g v w=>x i j k l m n p a q c r d s e t f u g v w f u (u.length:Int) z0 []
theorem aw4:ac5 Z 10 .body J3P (J3F i j k l m n p a q c r d s e t f u g v w)=J3b Z.R Z.D (L4 Z) i j k l m n p a q c r d s e t f u g v w:=by kernel_rfl
def L4b:Q->D->Tb6->Tb5->Tb5:=fun l0 _ k8 k9 i j k l m n p a q c r d s e t f u g v w y z A x C=>bif (decide (x<A)) then idxK z x fun c2=>aC (V.cells c2) fun c3 c4=>aS c3 fun c5=>aC c4 fun c6 c7=>aI c6 fun c8=>aTy c7 fun d1 d4 d7 e0 e3 F G H K L M P S=>(wrO (C++[O.box [(vS (⟨#[]⟩:ByteArray),false),(vI 0,false),(vI 0,false),(vS (⟨#[]⟩:ByteArray),false),(vS (⟨#[]⟩:ByteArray),false),(vI 0,false),(vI 0,false),(vL false 1 [],true),(vL false 9 [],true),(vL false 1 [],true),(vL false 3 [],true)]]) C.length 0 [(vS c5,false),(vI c8,false),(vI d1,false),(vS d4,false),(vS d7,false),(vI e0,false),(vI e3,false),(vL F 1 G,nilB (vL F 1 G)),(vL H 9 K,nilB (vL H 9 K)),(vL L 1 M,nilB (vL L 1 M)),(vL P 3 S,nilB (vL P 3 S))] fun E=>rd1 E C.length 0 fun f2=>aS f2 fun f3=>cP (l0 at7 [vS f3] []) (fun f4=>aB f4 fun f5=>bif (!f5) then k8 i j k l m n p a q c r d s e t f u g v w (C.length) y z A x true E else rd1 E C.length 0 fun f6=>aS f6 fun f7=>bif (f7.toList==(⟨#[118,111,105,100]⟩:ByteArray).toList) then k8 i j k l m n p a q c r d s e t f u g v w (C.length) y z A x true E else rdN E C.length 2 9 fun T=>aA8 T (aA (vA T) fun f8=>aTy f8 fun X a0 a1 a2 a3 a4 a5 a6 a7 a8 a9 c0 c1=>(ck (aa0 [vT X a0 a1 a2 a3 a4 a5 a6 a7 a8 a9 c0 c1,vB false]) (cP (l0 aH2 [vT X a0 a1 a2 a3 a4 a5 a6 a7 a8 a9 c0 c1,vB false] []) (fun j7=>aB j7 fun j8=>bif (!j8) then k8 i j k l m n p a q c r d s e t f u g v w (C.length) y z A x true E else rd1 E C.length 1 fun j9=>aI j9 fun k0=>bif (decide (k0<1)) then k8 i j k l m n p a q c r d s e t f u g v w (C.length) y z A x true E else rd1 E C.length 1 fun k1=>aI k1 fun k2=>bif (decide (k2>3)) then k8 i j k l m n p a q c r d s e t f u g v w (C.length) y z A x true E else ck (decide (0<=z0)&&(decide (z0<=x)&&decide (x<=(u.length:Int)))) (cS (l0 ag4 [vL f 11 ((u.take x.toNat).drop z0.toNat),V.func (.func 23) [] [vO C.length 0]] E) (fun k3 k4=>aB k3 fun k5=>k8 i j k l m n p a q c r d s e t f u g v w (C.length) y z A x k5 k4) panK)) fun k6=>panK k6 E)))) fun k7=>panK k7 E) else k9 i j k l m n p a q c r d s e t f u g v w g v (v.length:Int) z0 C
theorem aF3:ae4 Z 10 .body L4P (L4F i j k l m n p a q c r d s e t f u g v w y z A x C)=L4b Z.R Z.D (J5 Z) (L7 Z) i j k l m n p a q c r d s e t f u g v w y z A x C:=by kernel_rfl
def J5b:Q->D->Tb5->Tb6:=fun _ _ A i j k l m n p a q c r d s e t f u g v w a6 a7 a8 x a9 c0 c1=>bif c0 then retR [vB false] c1 else rd1 c1 a6 1 fun y=>aI y fun z=>bif (z !=z1) then A i j k l m n p a q c r d s e t f u g v (w6 (w+z1)) a7 a8 x a9 c1 else A i j k l m n p a q c r d s e t f u g v w a7 a8 x a9 c1
theorem aA0:ac5 Z 10 .body J5P (J5F i j k l m n p a q c r d s e t f u g v w a6 a7 a8 x a9 c0 c1)=J5b Z.R Z.D (J6 Z) i j k l m n p a q c r d s e t f u g v w a6 a7 a8 x a9 c0 c1:=by kernel_rfl
def J6b:Q->D->Tb5->Tb5:=fun _ _ E i j k l m n p a q c r d s e t f u g v w y z A x C=>E i j k l m n p a q c r d s e t f u g v w y z A (w6 (x+z1)) C
theorem aN8:ac5 Z 10 .body J6P (J6F i j k l m n p a q c r d s e t f u g v w y z A x C)=J6b Z.R Z.D (L4 Z) i j k l m n p a q c r d s e t f u g v w y z A x C:=by kernel_rfl
def L7b:Q->D->Tb7->(B->Lo->R)->Tb5:=fun j5 _ j3 j4 i j k l m n p a q c r d s e t f u g v w y z A x C=>bif (decide (x<A)) then idxK z x fun c2=>aTy (V.cells c2) fun c5 c8 d1 d4 d7 F G H K L M P S=>(wrO (C++[O.box [(vI 0,false),(vS (⟨#[]⟩:ByteArray),false),(vS (⟨#[]⟩:ByteArray),false),(vI 0,false),(vI 0,false),(vL false 1 [],true),(vL false 9 [],true),(vL false 1 [],true),(vL false 3 [],true)]]) C.length 0 [(vI c5,false),(vS c8,false),(vS d1,false),(vI d4,false),(vI d7,false),(vL F 1 G,nilB (vL F 1 G)),(vL H 9 K,nilB (vL H 9 K)),(vL L 1 M,nilB (vL L 1 M)),(vL P 3 S,nilB (vL P 3 S))] fun E=>rdN E C.length 0 9 fun T=>aA8 T (aA (vA T) fun e6=>aTy e6 fun X a0 a1 a2 a3 a4 a5 a6 a7 a8 a9 c0 c1=>(ck (aa0 [vT X a0 a1 a2 a3 a4 a5 a6 a7 a8 a9 c0 c1]) (cP (j5 av1 [vT X a0 a1 a2 a3 a4 a5 a6 a7 a8 a9 c0 c1] []) (fun g5=>aB g5 fun g6=>bif (!g6) then j3 i j k l m n p a q c r d s e t f u g v w y z A x true E else rd1 E C.length 0 fun g7=>aI g7 fun g8=>bif (g8 !=(15:Int)) then j3 i j k l m n p a q c r d s e t f u g v w y z A x true E else ck (decide (0<=z0)&&(decide (z0<=x)&&decide (x<=(v.length:Int)))) (cS (j5 ah4 [vL g 9 ((v.take x.toNat).drop z0.toNat),V.func (.func 26) [] [vO C.length 0]] E) (fun g9 j0=>aB g9 fun j1=>j3 i j k l m n p a q c r d s e t f u g v w y z A x j1 j0) panK)) fun j2=>panK j2 E)))) else bif (decide (w<=24)) then bif j then j4 (!(decide ((w6 (w+(v.length:Int)))>0))) C else j4 true C else j4 false C
theorem L7b_eq:ae4 Z 10 .body L7P (L7F i j k l m n p a q c r d s e t f u g v w y z A x C)=L7b Z.R Z.D (J8 Z) (J9 Z) i j k l m n p a q c r d s e t f u g v w y z A x C:=by kernel_rfl
def J8b:Q->D->Tb5->Tb7:=fun _ _ C i j k l m n p a q c r d s e t f u g v w y z A x c2 c3=>bif c2 then retR [vB false] c3 else C i j k l m n p a q c r d s e t f u g v w y z A (w6 (x+z1)) c3
theorem bt1:ac5 Z 10 .body J8P (J8F i j k l m n p a q c r d s e t f u g v w y z A x c2 c3)=J8b Z.R Z.D (L7 Z) i j k l m n p a q c r d s e t f u g v w y z A x c2 c3:=by kernel_rfl
def J9b:Q->D->B->Lo->R:=fun _ _ F G=>retR [vB F] G
theorem bt0:ac5 Z 10 .body J9P (J9F F G)=J9b Z.R Z.D F G:=by kernel_rfl
theorem b_of {o}(h:b RZ.R RZ.D (J0 RZ) H K L M P S T a X c a0 d a1 e a2 f a3 g a4=some o):RZ.R au3 [vA [vS H,vB K,vI L,vS M,vS P,vI S,vI T,vL a 1 X,vL c 9 a0,vL d 1 a1,vL e 3 a2,vL f 11 a3,vL g 9 a4]] []=some o:=ab7 ((b_eq RZ ..).trans h)
theorem ad0 {o}(h:J0b RZ.R RZ.D (J1 RZ) i j k l m n p a q c r d s e t f u g v E a5=some o):J0 RZ i j k l m n p a q c r d s e t f u g v E a5=some o:=aa9 (by kernel_rfl) ((ab9 RZ ..).trans h)
theorem an7 {o}(h:J1b RZ.R RZ.D (J2 RZ) i j k l m n p a q c r d s e t f u g v E=some o):J1 RZ i j k l m n p a q c r d s e t f u g v E=some o:=aa9 (by kernel_rfl) ((ak2 RZ ..).trans h)
theorem ak5 {o}(h:J2b RZ.R RZ.D (J3 RZ) i j k l m n p a q c r d s e t f u g v c4=some o):J2 RZ i j k l m n p a q c r d s e t f u g v c4=some o:=aa9 (by kernel_rfl) ((ah0 RZ ..).trans h)
theorem aH9 {o}(h:J3b RZ.R RZ.D (L4 RZ) i j k l m n p a q c r d s e t f u g v w=some o):J3 RZ i j k l m n p a q c r d s e t f u g v w=some o:=aa9 (by kernel_rfl) ((aw4 RZ ..).trans h)
theorem aE4 {o}(h:L4b RZ.R RZ.D (J5 RZ) (L7 RZ) i j k l m n p a q c r d s e t f u g v w y z A x C=some o):L4 RZ i j k l m n p a q c r d s e t f u g v w y z A x C=some o:=ac9 ((aF3 RZ ..).trans h)
theorem aM6 {o}(h:J5b RZ.R RZ.D (J6 RZ) i j k l m n p a q c r d s e t f u g v w a6 a7 a8 x a9 c0 c1=some o):J5 RZ i j k l m n p a q c r d s e t f u g v w a6 a7 a8 x a9 c0 c1=some o:=aa9 (by kernel_rfl) ((aA0 RZ ..).trans h)
theorem aV8 {o}(h:J6b RZ.R RZ.D (L4 RZ) i j k l m n p a q c r d s e t f u g v w y z A x C=some o):J6 RZ i j k l m n p a q c r d s e t f u g v w y z A x C=some o:=aa9 (by kernel_rfl) ((aN8 RZ ..).trans h)
theorem L7_of {o}(h:L7b RZ.R RZ.D (J8 RZ) (J9 RZ) i j k l m n p a q c r d s e t f u g v w y z A x C=some o):L7 RZ i j k l m n p a q c r d s e t f u g v w y z A x C=some o:=ac9 ((L7b_eq RZ ..).trans h)
theorem bF7 {o}(h:J8b RZ.R RZ.D (L7 RZ) i j k l m n p a q c r d s e t f u g v w y z A x c2 c3=some o):J8 RZ i j k l m n p a q c r d s e t f u g v w y z A x c2 c3=some o:=aa9 (by kernel_rfl) ((bt1 RZ ..).trans h)
theorem J9_of {o}(h:J9b RZ.R RZ.D F G=some o):J9 RZ F G=some o:=aa9 (by kernel_rfl) ((bt0 RZ ..).trans h)
end
end aa6
namespace ab2
section
variable (a:B)(d e:W)(c:V)(f:Lo)(g i:Int)(j:Lo)
def L0P:List Nat:=[0,1,0,1]
def L0F:St:=⟨mkT 19 [(0,vL a 11 e,.no),(1,c,.no),(7,vI g,.no),(8,vI i,.no)],mkA 0 [],0,[],j,[]⟩
def L0:=Z.X 38 .body L0P (L0F a e c g i j)
def b:Q->D->Tb8->B->W->V->Lo->R:=fun _ _ e a d c f=>e a d c (d.length:Int) z0 f
theorem b_eq:ac7 Z 38 [vL a 11 d,c] f=b Z.R Z.D (L0 Z) a d c f:=by kernel_rfl
def L0b:Q->D->Tb8->Tb8:=fun c2 _ c1 a e c g i j=>bif (decide (i<g)) then idxK e i fun f=>aC (V.cells f) fun k l=>aS k fun m=>aC l fun n p=>aI n fun q=>aTy p fun t w z E H M P X a0 a3 a4 a7 a8=>(aV9 c2 c [vA [vS m,vI q,vI t,vS w,vS z,vI E,vI H,vL M 1 P,vL X 9 a0,vL a3 1 a4,vL a7 3 a8]] j (fun a9 d=>aB a9 fun c0=>bif c0 then retR [vI i] d else c1 a e c g (w6 (i+z1)) d) panK) else retR [vI (-1)] j
theorem ag9:ae4 Z 38 .body L0P (L0F a e c g i j)=L0b Z.R Z.D (L0 Z) a e c g i j:=by kernel_rfl
theorem b_of {o}(h:b RZ.R RZ.D (L0 RZ) a d c f=some o):RZ.R ah6 [vL a 11 d,c] f=some o:=ab7 ((b_eq RZ ..).trans h)
theorem ag6 {o}(h:L0b RZ.R RZ.D (L0 RZ) a e c g i j=some o):L0 RZ a e c g i j=some o:=ac9 ((ag9 RZ ..).trans h)
end
end ab2
namespace ay3
section
variable (a:B)(c:Int)
def J0P:List Nat:=[0,1]
def J0F:St:=⟨mkT 17 [(2,vB a,.no)],mkA 0 [],0,[],[],[]⟩
def J0:=Z.X 41 .body J0P (J0F a)
def b:Q->D->(B->R)->Int->R:=fun _ _ a c=>bif (decide (c>=97)) then bif (decide (c<=122)) then a true else bif (decide (c>=65)) then a (decide (c<=90)) else a false else bif (decide (c>=65)) then a (decide (c<=90)) else a false
theorem b_eq:ac7 Z 41 [vU c] []=b Z.R Z.D (J0 Z) c:=by kernel_rfl
def J0b:Q->D->B->R:=fun _ _ a=>retR [vB a] []
theorem ab9:ac5 Z 41 .body J0P (J0F a)=J0b Z.R Z.D a:=by kernel_rfl
theorem b_of {o}(h:b RZ.R RZ.D (J0 RZ) c=some o):RZ.R aA4 [vU c] []=some o:=ab7 ((b_eq RZ ..).trans h)
theorem ad0 {o}(h:J0b RZ.R RZ.D a=some o):J0 RZ a=some o:=aa9 (by kernel_rfl) ((ab9 RZ ..).trans h)
end
end ay3
namespace aQ7
section
variable (a c:Nat)(d:Int)(e f:Y)(g i:Int)(j:B)(k:W)(l:B)(m:W)(n:B)(p:W)(q:B)(r:W)(s:Lo)
def b:Q->D->Nat->Nat->Int->Y->Y->Int->Int->B->W->B->W->B->W->B->W->Lo->R:=fun w _ _ _ d e f g i j k l m n p q r s=>ck (aa0 [vT d e f g i j k l m n p q r]) (cP (w ar7 [vT d e f g i j k l m n p q r] []) (fun t=>aB t fun u=>retR [vT d (⟨#[]⟩:ByteArray) (⟨#[]⟩:ByteArray) g i j k l m n p q r,vB u] s) fun v=>panK v s)
theorem b_eq:ac7 Z 73 [vO a c,vT d e f g i j k l m n p q r] s=b Z.R Z.D a c d e f g i j k l m n p q r s:=by kernel_rfl
theorem b_of {o}(h:b RZ.R RZ.D a c d e f g i j k l m n p q r s=some o):RZ.R bC5 [vO a c,vT d e f g i j k l m n p q r] s=some o:=ab7 ((b_eq RZ ..).trans h)
end
end aQ7
namespace aH0
section
variable (a:Y)(c d:Int)(e:B)(f:Y)
def L0P:List Nat:=[0,1,0,1]
def L0F:St:=⟨mkT 23 [(0,vS a,.no),(5,vI c,.no),(6,vI d,.no)],mkA 0 [],0,[],[],[]⟩
def L0:=Z.X 84 .body L0P (L0F a c d)
def J1P:List Nat:=[0,1,1]
def J1F:St:=⟨mkT 23 [(2,vB e,.no)],mkA 0 [],0,[],[],[]⟩
def J1:=Z.X 84 .body J1P (J1F e)
def b:Q->D->Tb9->Y->R:=fun _ _ a f=>a f (f.size:Int) z0
theorem b_eq:ac7 Z 84 [vS f] []=b Z.R Z.D (L0 Z) f:=by kernel_rfl
def L0b:Q->D->Tb9->(B->R)->Tb9:=fun l _ j k a c d=>bif (decide (d<c)) then aT3 a d fun e=>cP (l aR5 [vU e] []) (fun f=>aB f fun g=>bif (!g) then retR [vB false] [] else j a c (w6 (d+z1))) (fun i=>panK i []) else bif (decide ((a.size:Int)>=1)) then k (decide ((a.size:Int)<=32)) else k false
theorem ag9:ae4 Z 84 .body L0P (L0F a c d)=L0b Z.R Z.D (L0 Z) (J1 Z) a c d:=by kernel_rfl
def J1b:Q->D->B->R:=fun _ _ e=>retR [vB e] []
theorem ak2:ac5 Z 84 .body J1P (J1F e)=J1b Z.R Z.D e:=by kernel_rfl
theorem b_of {o}(h:b RZ.R RZ.D (L0 RZ) f=some o):RZ.R aZ2 [vS f] []=some o:=ab7 ((b_eq RZ ..).trans h)
theorem ag6 {o}(h:L0b RZ.R RZ.D (L0 RZ) (J1 RZ) a c d=some o):L0 RZ a c d=some o:=ac9 ((ag9 RZ ..).trans h)
theorem an7 {o}(h:J1b RZ.R RZ.D e=some o):J1 RZ e=some o:=aa9 (by kernel_rfl) ((ak2 RZ ..).trans h)
end
end aH0
namespace aU3
section
variable (a:Y)(c:Int)(d:B)(e:Nat)(f:Lo)
def b:Q->D->Y->Int->B->Nat->Lo->R:=fun _ _ a _ _ e f=>rd1 f e 0 fun g=>aS g fun i=>retR [vB (a.toList==i.toList)] f
theorem b_eq:ac7 Z 89 [vA [vS a,vI c,vB d],vO e 0] f=b Z.R Z.D a c d e f:=by kernel_rfl
theorem b_of {o}(h:b RZ.R RZ.D a c d e f=some o):RZ.R ak7 [vA [vS a,vI c,vB d],vO e 0] f=some o:=ab7 ((b_eq RZ ..).trans h)
end
end aU3
end
end Go.Proofs.YtflhfchgdpbhcaaGreat.E
