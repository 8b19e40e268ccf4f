/- It is proved of functions that StubTypes reaches what their evaluation is, in plain words. No condition. -/
import Derived.Test.YtflhfchgdpbhcaaGreatLH
set_option maxRecDepth 100000
set_option maxHeartbeats 40000
namespace Go.Proofs.YtflhfchgdpbhcaaGreat.E
open Go
noncomputable section
abbrev Ta0:=Y->B->Int->Y->Y->Int->Int->B->W->B->W->B->W->B->W->B->W->B->W->Y->B->R
abbrev Ta1:=Y->B->Int->Y->Y->Int->Int->B->W->B->W->B->W->B->W->B->W->B->W->Y->R
abbrev Ta2:=Y->B->Int->Y->Y->Int->Int->B->W->B->W->B->W->B->W->B->W->B->W->B->R
abbrev Ta3:=Y->B->Int->Y->Y->Int->Int->B->W->B->W->B->W->B->W->B->W->B->W->Int->R
abbrev Ta4:=Y->B->Int->Y->Y->Int->Int->B->W->B->W->B->W->B->W->B->W->B->W->Int->B->W->W->B->W->Int->Int->R
abbrev Ta5:=Y->B->Int->Y->Y->Int->Int->B->W->B->W->B->W->B->W->B->W->B->W->Int->B->W->W->B->W->Int->Int->B->Y->Int->Int->Y->Y->Int->Int->B->W->B->W->B->W->B->W->R
abbrev Ta6:=Y->B->Int->Y->Y->Int->Int->B->W->B->W->B->W->B->W->B->W->B->W->Int->B->W->B->W->B->W->Int->Int->R
abbrev Ta7:=Y->B->Int->Y->Y->Int->Int->B->W->B->W->B->W->B->W->B->W->B->W->Int->B->W->B->W->B->W->Int->Int->B->Int->Y->Y->Int->Int->B->W->B->W->B->W->B->W->R
abbrev Ta8:=Y->B->Int->Y->Y->Int->Int->B->W->B->W->B->W->B->W->B->W->B->W->Int->B->R
abbrev Ta9:=B->W->Int->Int->Lo->R
abbrev Ta10:=B->W->Y->Int->Int->R
variable (Z:Env)
namespace aa5
section
variable (i:Y)(j:B)(k:Int)(l m:Y)(n p:Int)(a1:B)(a2:Y)(a3:B)(a4:Int)(a5 a6:Y)(a7 a8:Int)(a:B)(a9 q:W)(c:B)(c0 r:W)(d:B)(c1 s:W)(e:B)(c2 t:W)(f:B)(c3 u:W)(g:B)(c4 v:W)(G:Y)(w:Int)(x:B)(y:W)(H:B)(K:W)(L:B)(M A:W)(C:B)(E:W)(F z P:Int)(c5 c6:B)(c7:Y)(S:Int)(c8:Y)(c9:Int)(T d0:Y)(d1 X d2:Int)(d3:B)(d4:W)(d5:B)(d6:W)(d7:B)(d8:W)(d9:B)(e0:W)(e1:B)(e2:W)(e3:B)(e4:W)(e5:B)(e6:W)(e7:B)(e8:W)(a0 e9:B)
def J0P:List Nat:=[0,0,1,1]
def J0F:St:=⟨mkT 149 [(1,vR [vS i,vB j,vI k,vS l,vS m,vI n,vI p,vL a 1 q,vL c 9 r,vL d 1 s,vL e 3 t,vL f 11 u,vL g 9 v],.no),(3,vS G,.no),(20,vB a0,.no)],mkA 2 [],0,[],[],[]⟩
def J0:=Z.X 11 .body J0P (J0F i j k l m n p a q c r d s e t f u g v G a0)
def J1P:List Nat:=[1,0,1,1]
def J1F:St:=⟨mkT 149 [(1,vR [vS i,vB j,vI k,vS l,vS m,vI n,vI p,vL a 1 q,vL c 9 r,vL d 1 s,vL e 3 t,vL f 11 u,vL g 9 v],.no),(3,vS G,.no)],mkA 2 [],0,[],[],[]⟩
def J1:=Z.X 11 .body J1P (J1F i j k l m n p a q c r d s e t f u g v G)
def J2P:List Nat:=[0,0,1,1,1]
def J2F:St:=⟨mkT 149 [(1,vR [vS i,vB j,vI k,vS l,vS m,vI n,vI p,vL a 1 q,vL c 9 r,vL d 1 s,vL e 3 t,vL f 11 u,vL g 9 v],.no),(55,vB e9,.no)],mkA 2 [],0,[],[],[]⟩
def J2:=Z.X 11 .body J2P (J2F i j k l m n p a q c r d s e t f u g v e9)
def J3P:List Nat:=[1,0,1,1,1,1,1]
def J3F:St:=⟨mkT 149 [(1,vR [vS i,vB j,vI k,vS l,vS m,vI n,vI p,vL a 1 q,vL c 9 r,vL d 1 s,vL e 3 t,vL f 11 u,vL g 9 v],.no),(4,vI w,.no)],mkA 2 [],0,[],[],[]⟩
def J3:=Z.X 11 .body J3P (J3F i j k l m n p a q c r d s e t f u g v w)
def L4P:List Nat:=[0,1,0,1,1,1,1,1,1,1]
def L4F:St:=⟨mkT 149 [(1,vR [vS i,vB j,vI k,vS l,vS m,vI n,vI p,vL a 1 q,vL c 9 r,vL d 1 s,vL e 3 t,vL f 11 u,vL g 9 v],.no),(4,vI w,.no),(5,vL x 1 y,.tok 0),(6,vL false 1 A,.full),(63,vL C 11 E,.no),(64,vI F,.no),(65,vI z,.no)],mkA 2 [],1,[0],[],[]⟩
def L4:=Z.X 11 .body L4P (L4F i j k l m n p a q c r d s e t f u g v w x y A C E F z)
def J5P:List Nat:=[0,0,1,0,0,1,1,0,0,1,0,1,1,1,1,1,1,1]
def J5F:St:=⟨mkT 149 [(1,vR [vS i,vB j,vI k,vS l,vS m,vI n,vI p,vL a 1 q,vL c 9 r,vL d 1 s,vL e 3 t,vL f 11 u,vL g 9 v],.no),(4,vI w,.no),(5,vL x 1 y,.tok 0),(6,vL false 1 A,.full),(8,V.loc 0 0,.no),(63,vL C 11 E,.no),(64,vI F,.no),(65,vI z,.no),(93,vB c6,.no)],mkA 2 [(0,[(vS c7,.no),(vI S,.no),(vI c9,.no),(vS T,.no),(vS d0,.no),(vI X,.no),(vI d2,.no),(vL d3 1 d4,.no),(vL d5 9 d6,.no),(vL d7 1 d8,.no),(vL d9 3 e0,.no)])],1,[0],[],[]⟩
def J5:=Z.X 11 .body J5P (J5F i j k l m n p a q c r d s e t f u g v w x y A C E F z c6 c7 S c9 T d0 X d2 d3 d4 d5 d6 d7 d8 d9 e0)
def J6P:List Nat:=[1,1,1,1,0,0,1,1,0,0,1,0,1,1,1,1,1,1,1]
def J6F:St:=⟨mkT 149 [(1,vR [vS i,vB j,vI k,vS l,vS m,vI n,vI p,vL a 1 q,vL c 9 r,vL d 1 s,vL e 3 t,vL f 11 u,vL g 9 v],.no),(4,vI w,.no),(5,vL x 1 y,.tok 1),(6,vL false 1 A,.full),(63,vL C 11 E,.no),(64,vI F,.no),(65,vI z,.no)],mkA 2 [],2,[1],[],[]⟩
def J6:=Z.X 11 .body J6P (J6F i j k l m n p a q c r d s e t f u g v w x y A C E F z)
def L7P:List Nat:=[0,1,0,1,1,1,1,1,1,1,1]
def L7F:St:=⟨mkT 149 [(1,vR [vS i,vB j,vI k,vS l,vS m,vI n,vI p,vL a 1 q,vL c 9 r,vL d 1 s,vL e 3 t,vL f 11 u,vL g 9 v],.no),(4,vI w,.no),(5,vL x 1 y,.no),(6,vL H 1 K,.tok 0),(106,vL L 9 M,.no),(107,vI z,.no),(108,vI P,.no)],mkA 2 [],1,[0],[],[]⟩
def L7:=Z.X 11 .body L7P (L7F i j k l m n p a q c r d s e t f u g v w x y H K L M z P)
def J8P:List Nat:=[0,0,1,0,0,1,1,0,0,1,0,1,1,1,1,1,1,1,1]
def J8F:St:=⟨mkT 149 [(1,vR [vS i,vB j,vI k,vS l,vS m,vI n,vI p,vL a 1 q,vL c 9 r,vL d 1 s,vL e 3 t,vL f 11 u,vL g 9 v],.no),(4,vI w,.no),(5,vL x 1 y,.no),(6,vL H 1 K,.tok 0),(10,V.loc 1 0,.no),(106,vL L 9 M,.no),(107,vI z,.no),(108,vI P,.no),(119,vB c5,.no)],mkA 2 [(1,[(vI S,.no),(vS c8,.no),(vS T,.no),(vI d1,.no),(vI X,.no),(vL e1 1 e2,.no),(vL e3 9 e4,.no),(vL e5 1 e6,.no),(vL e7 3 e8,.no)])],1,[0],[],[]⟩
def J8:=Z.X 11 .body J8P (J8F i j k l m n p a q c r d s e t f u g v w x y H K L M z P c5 S c8 T d1 X e1 e2 e3 e4 e5 e6 e7 e8)
def J9P:List Nat:=[0,0,1,1,1,1,1,1,1,1,1]
def J9F:St:=⟨mkT 149 [(1,vR [vS i,vB j,vI k,vS l,vS m,vI n,vI p,vL a 1 q,vL c 9 r,vL d 1 s,vL e 3 t,vL f 11 u,vL g 9 v],.no),(4,vI w,.no),(135,vB a0,.no)],mkA 2 [],1,[0],[],[]⟩
def J9:=Z.X 11 .body J9P (J9F i j k l m n p a q c r d s e t f u g v w a0)
def J10P:List Nat:=[0,1,1,1,1,1,1,1,1,1,1]
def J10F:St:=⟨mkT 149 [(2,vB a1,.no)],mkA 2 [],1,[0],[],[]⟩
def J10:=Z.X 11 .body J10P (J10F a1)
def b:Q->D->Ta0->Y->B->Int->Y->Y->Int->Int->B->W->B->W->B->W->B->W->B->W->B->W->R:=fun _ _ j a2 a3 a4 a5 a6 a7 a8 a a9 c c0 d c1 e c2 f c3 g c4=>bif (decide ((a2.size:Int)>0)) then aT3 a2 z0 fun i=>j a2 a3 a4 a5 a6 a7 a8 a a9 c c0 d c1 e c2 f c3 g c4 a2 (i==(95:Int)) else j a2 a3 a4 a5 a6 a7 a8 a a9 c c0 d c1 e c2 f c3 g c4 a2 false
theorem b_eq:ac7 Z 11 [vA [vS a2,vB a3,vI a4,vS a5,vS a6,vI a7,vI a8,vL a 1 a9,vL c 9 c0,vL d 1 c1,vL e 3 c2,vL f 11 c3,vL g 9 c4]] []=b Z.R Z.D (J0 Z) a2 a3 a4 a5 a6 a7 a8 a a9 c c0 d c1 e c2 f c3 g c4:=by kernel_rfl
def J0b:Q->D->Ta1->Ta0:=fun _ _ w i j k l m n p a q c r d s e t f u g v G a0=>bif a0 then ck (decide (0<=z1)&&(decide (z1<=(G.size:Int))&&decide ((G.size:Int)<=(G.size:Int)))) (w i j k l m n p a q c r d s e t f u g v (G.extract z1.toNat (G.size:Int).toNat)) else w i j k l m n p a q c r d s e t f u g v G
theorem ab9:ac5 Z 11 .body J0P (J0F i j k l m n p a q c r d s e t f u g v G a0)=J0b Z.R Z.D (J1 Z) i j k l m n p a q c r d s e t f u g v G a0:=by kernel_rfl
def J1b:Q->D->Ta2->Ta1:=fun S _ P i j k l m n p a q c r d s e t f u g v G=>cP (S av0 [vS G] []) (fun w=>aB w fun x=>bif (!x) then P i j k l m n p a q c r d s e t f u g v true else bif (k !=z0) then ck (aa0 [vT k l m n p a q c r d s e t]) (cP (S aH3 [vT k l m n p a q c r d s e t] []) (fun y=>aB y fun z=>bif (!z) then P i j k l m n p a q c r d s e t f u g v true else ck (aa0 [vT k l m n p a q c r d s e t]) (cP (S am9 [vT k l m n p a q c r d s e t] []) (fun A=>aB A fun C=>bif (!C) then P i j k l m n p a q c r d s e t f u g v true else bif (decide ((u.length:Int)>24)) then P i j k l m n p a q c r d s e t f u g v true else P i j k l m n p a q c r d s e t f u g v (decide ((v.length:Int)>24))) fun E=>panK E [])) fun F=>panK F []) else ck (aa0 [vT k l m n p a q c r d s e t]) (cP (S am9 [vT k l m n p a q c r d s e t] []) (fun H=>aB H fun K=>bif (!K) then P i j k l m n p a q c r d s e t f u g v true else bif (decide ((u.length:Int)>24)) then P i j k l m n p a q c r d s e t f u g v true else P i j k l m n p a q c r d s e t f u g v (decide ((v.length:Int)>24))) fun L=>panK L [])) fun M=>panK M []
theorem ak2:ac5 Z 11 .body J1P (J1F i j k l m n p a q c r d s e t f u g v G)=J1b Z.R Z.D (J2 Z) i j k l m n p a q c r d s e t f u g v G:=by kernel_rfl
def J2b:Q->D->Ta3->Ta2:=fun _ _ w i j k l m n p a q c r d s e t f u g v e9=>bif e9 then retR [vB false] [] else bif (k !=z0) then w i j k l m n p a q c r d s e t f u g v z1 else w i j k l m n p a q c r d s e t f u g v z0
theorem ah0:ac5 Z 11 .body J2P (J2F i j k l m n p a q c r d s e t f u g v e9)=J2b Z.R Z.D (J3 Z) i j k l m n p a q c r d s e t f u g v e9:=by kernel_rfl
def J3b:Q->D->Ta4->Ta3:=fun _ _ x i j k l m n p a q c r d s e t f u g v w=>x i j k l m n p a q c r d s e t f u g v w false [] [] f u (u.length:Int) z0
theorem aw4:ac5 Z 11 .body J3P (J3F i j k l m n p a q c r d s e t f u g v w)=J3b Z.R Z.D (L4 Z) i j k l m n p a q c r d s e t f u g v w:=by kernel_rfl
def L4b:Q->D->Ta5->Ta6->Ta4:=fun e7 _ e5 e6 i j k l m n p a q c r d s e t f u g v w x y A C E F z=>bif (decide (z<F)) then idxK E z fun a6=>aC (V.cells a6) fun a7 a8=>aS a7 fun G=>aC a8 fun a9 c0=>aI a9 fun H=>aTy c0 fun K L M P S T X a0 a1 a2 a3 a4 a5=>(cP (e7 av0 [vS G] []) (fun d9=>aB d9 fun e0=>bif (!e0) then e5 i j k l m n p a q c r d s e t f u g v w x y A C E F z true G H K L M P S T X a0 a1 a2 a3 a4 a5 else bif (G.toList==(⟨#[118,111,105,100]⟩:ByteArray).toList) then e5 i j k l m n p a q c r d s e t f u g v w x y A C E F z true G H K L M P S T X a0 a1 a2 a3 a4 a5 else ck (aa0 [vT K L M P S T X a0 a1 a2 a3 a4 a5]) (cP (e7 aH3 [vT K L M P S T X a0 a1 a2 a3 a4 a5] []) (fun e1=>aB e1 fun e2=>bif (!e2) then e5 i j k l m n p a q c r d s e t f u g v w x y A C E F z true G H K L M P S T X a0 a1 a2 a3 a4 a5 else bif (decide (H<1)) then e5 i j k l m n p a q c r d s e t f u g v w x y A C E F z true G H K L M P S T X a0 a1 a2 a3 a4 a5 else e5 i j k l m n p a q c r d s e t f u g v w x y A C E F z (decide (H>3)) G H K L M P S T X a0 a1 a2 a3 a4 a5) fun e3=>panK e3 [])) fun e4=>panK e4 []) else e6 i j k l m n p a q c r d s e t f u g v w x y false A g v (v.length:Int) z0
theorem aF3:ae4 Z 11 .body L4P (L4F i j k l m n p a q c r d s e t f u g v w x y A C E F z)=L4b Z.R Z.D (J5 Z) (L7 Z) i j k l m n p a q c r d s e t f u g v w x y A C E F z:=by kernel_rfl
def J5b:Q->D->Ta4->Ta5:=fun _ _ G i j k l m n p a q c r d s e t f u g v w x y A C E F z c6 c7 S _ _ _ _ _ _ _ _ _ _ _ _ _=>bif c6 then retR [vB false] [] else apK y [vS c7] 16 (bif (S !=z1) then G i j k l m n p a q c r d s e t f u g v (w6 (w+z1)) (x||![vS c7].isEmpty) (y++[vS c7]) A C E F z else G i j k l m n p a q c r d s e t f u g v w (x||![vS c7].isEmpty) (y++[vS c7]) A C E F z)
theorem aA0:ac5 Z 11 .body J5P (J5F i j k l m n p a q c r d s e t f u g v w x y A C E F z c6 c7 S c9 T d0 X d2 d3 d4 d5 d6 d7 d8 d9 e0)=J5b Z.R Z.D (J6 Z) i j k l m n p a q c r d s e t f u g v w x y A C E F z c6 c7 S c9 T d0 X d2 d3 d4 d5 d6 d7 d8 d9 e0:=by kernel_rfl
def J6b:Q->D->Ta4->Ta4:=fun _ _ G i j k l m n p a q c r d s e t f u g v w x y A C E F z=>G i j k l m n p a q c r d s e t f u g v w x y A C E F (w6 (z+z1))
theorem aN8:ac5 Z 11 .body J6P (J6F i j k l m n p a q c r d s e t f u g v w x y A C E F z)=J6b Z.R Z.D (L4 Z) i j k l m n p a q c r d s e t f u g v w x y A C E F z:=by kernel_rfl
def L7b:Q->D->Ta7->Ta8->Ta6:=fun e5 _ e3 e4 i j k l m n p a q c r d s e t f u g v w x y H K L M z P=>bif (decide (P<z)) then idxK M P fun a5=>aTy (V.cells a5) fun A C E F G S T X a0 a1 a2 a3 a4=>(bif (A !=(15:Int)) then e3 i j k l m n p a q c r d s e t f u g v w x y H K L M z P true A C E F G S T X a0 a1 a2 a3 a4 else ck (aa0 [vT A C E F G S T X a0 a1 a2 a3 a4]) (cP (e5 am9 [vT A C E F G S T X a0 a1 a2 a3 a4] []) (fun d4=>aB d4 fun d5=>e3 i j k l m n p a q c r d s e t f u g v w x y H K L M z P (!d5) A C E F G S T X a0 a1 a2 a3 a4) fun d6=>panK d6 [])) else ck (aa0 [vL x 1 y]) (cP (e5 as7 [vL x 1 y] []) (fun d7=>aB d7 fun d8=>bif d8 then e4 i j k l m n p a q c r d s e t f u g v w true else ck (aa0 [vL H 1 K]) (cP (e5 as7 [vL H 1 K] []) (fun d9=>aB d9 fun e0=>bif e0 then e4 i j k l m n p a q c r d s e t f u g v w true else e4 i j k l m n p a q c r d s e t f u g v w (decide (w>24))) fun e1=>panK e1 [])) fun e2=>panK e2 [])
theorem L7b_eq:ae4 Z 11 .body L7P (L7F i j k l m n p a q c r d s e t f u g v w x y H K L M z P)=L7b Z.R Z.D (J8 Z) (J9 Z) i j k l m n p a q c r d s e t f u g v w x y H K L M z P:=by kernel_rfl
def J8b:Q->D->Ta6->Ta7:=fun _ _ A i j k l m n p a q c r d s e t f u g v w x y H K L M z P c5 _ c8 _ _ _ _ _ _ _ _ _ _ _=>bif c5 then retR [vB false] [] else apK K [vS c8] 16 (A i j k l m n p a q c r d s e t f u g v w x y (H||![vS c8].isEmpty) (K++[vS c8]) L M z (w6 (P+z1)))
theorem bt1:ac5 Z 11 .body J8P (J8F i j k l m n p a q c r d s e t f u g v w x y H K L M z P c5 S c8 T d1 X e1 e2 e3 e4 e5 e6 e7 e8)=J8b Z.R Z.D (L7 Z) i j k l m n p a q c r d s e t f u g v w x y H K L M z P c5 S c8 T d1 X e1 e2 e3 e4 e5 e6 e7 e8:=by kernel_rfl
def J9b:Q->D->(B->R)->Ta8:=fun _ _ x _ j _ _ _ _ _ _ _ _ _ _ _ _ _ _ _ _ v w a0=>bif a0 then retR [vB false] [] else bif (!j) then x true else bif (w==z0) then x ((v.length:Int)==z0) else x false
theorem bt0:ac5 Z 11 .body J9P (J9F i j k l m n p a q c r d s e t f u g v w a0)=J9b Z.R Z.D (J10 Z) i j k l m n p a q c r d s e t f u g v w a0:=by kernel_rfl
def J10b:Q->D->B->R:=fun _ _ a1=>retR [vB a1] []
theorem J10b_eq:ac5 Z 11 .body J10P (J10F a1)=J10b Z.R Z.D a1:=by kernel_rfl
theorem b_of {o}(h:b RZ.R RZ.D (J0 RZ) a2 a3 a4 a5 a6 a7 a8 a a9 c c0 d c1 e c2 f c3 g c4=some o):RZ.R ap5 [vA [vS a2,vB a3,vI a4,vS a5,vS a6,vI a7,vI a8,vL a 1 a9,vL c 9 c0,vL d 1 c1,vL e 3 c2,vL f 11 c3,vL g 9 c4]] []=some o:=ab7 ((b_eq RZ ..).trans h)
theorem ad0 {o}(h:J0b RZ.R RZ.D (J1 RZ) i j k l m n p a q c r d s e t f u g v G a0=some o):J0 RZ i j k l m n p a q c r d s e t f u g v G a0=some o:=aa9 (by kernel_rfl) ((ab9 RZ ..).trans h)
theorem an7 {o}(h:J1b RZ.R RZ.D (J2 RZ) i j k l m n p a q c r d s e t f u g v G=some o):J1 RZ i j k l m n p a q c r d s e t f u g v G=some o:=aa9 (by kernel_rfl) ((ak2 RZ ..).trans h)
theorem ak5 {o}(h:J2b RZ.R RZ.D (J3 RZ) i j k l m n p a q c r d s e t f u g v e9=some o):J2 RZ i j k l m n p a q c r d s e t f u g v e9=some o:=aa9 (by kernel_rfl) ((ah0 RZ ..).trans h)
theorem aH9 {o}(h:J3b RZ.R RZ.D (L4 RZ) i j k l m n p a q c r d s e t f u g v w=some o):J3 RZ i j k l m n p a q c r d s e t f u g v w=some o:=aa9 (by kernel_rfl) ((aw4 RZ ..).trans h)
theorem aE4 {o}(h:L4b RZ.R RZ.D (J5 RZ) (L7 RZ) i j k l m n p a q c r d s e t f u g v w x y A C E F z=some o):L4 RZ i j k l m n p a q c r d s e t f u g v w x y A C E F z=some o:=ac9 ((aF3 RZ ..).trans h)
theorem aM6 {o}(h:J5b RZ.R RZ.D (J6 RZ) i j k l m n p a q c r d s e t f u g v w x y A C E F z c6 c7 S c9 T d0 X d2 d3 d4 d5 d6 d7 d8 d9 e0=some o):J5 RZ i j k l m n p a q c r d s e t f u g v w x y A C E F z c6 c7 S c9 T d0 X d2 d3 d4 d5 d6 d7 d8 d9 e0=some o:=aa9 (by kernel_rfl) ((aA0 RZ ..).trans h)
theorem aV8 {o}(h:J6b RZ.R RZ.D (L4 RZ) i j k l m n p a q c r d s e t f u g v w x y A C E F z=some o):J6 RZ i j k l m n p a q c r d s e t f u g v w x y A C E F z=some o:=aa9 (by kernel_rfl) ((aN8 RZ ..).trans h)
theorem L7_of {o}(h:L7b RZ.R RZ.D (J8 RZ) (J9 RZ) i j k l m n p a q c r d s e t f u g v w x y H K L M z P=some o):L7 RZ i j k l m n p a q c r d s e t f u g v w x y H K L M z P=some o:=ac9 ((L7b_eq RZ ..).trans h)
theorem bF7 {o}(h:J8b RZ.R RZ.D (L7 RZ) i j k l m n p a q c r d s e t f u g v w x y H K L M z P c5 S c8 T d1 X e1 e2 e3 e4 e5 e6 e7 e8=some o):J8 RZ i j k l m n p a q c r d s e t f u g v w x y H K L M z P c5 S c8 T d1 X e1 e2 e3 e4 e5 e6 e7 e8=some o:=aa9 (by kernel_rfl) ((bt1 RZ ..).trans h)
theorem J9_of {o}(h:J9b RZ.R RZ.D (J10 RZ) i j k l m n p a q c r d s e t f u g v w a0=some o):J9 RZ i j k l m n p a q c r d s e t f u g v w a0=some o:=aa9 (by kernel_rfl) ((bt0 RZ ..).trans h)
theorem J10_of {o}(h:J10b RZ.R RZ.D a1=some o):J10 RZ a1=some o:=aa9 (by kernel_rfl) ((J10b_eq RZ ..).trans h)
end
end aa5
namespace am7
section
variable (a:B)(c d:W)(e f:Int)(g:Lo)
def L0P:List Nat:=[0,1,0,1]
def L0F:St:=⟨mkT 16 [(5,vL a 9 d,.no),(6,vI e,.no),(7,vI f,.no)],mkA 1 [],0,[],g,[]⟩
def L0:=Z.X 13 .body L0P (L0F a d e f g)
def b:Q->D->Ta9->B->W->R:=fun _ _ d a c=>d a c (c.length:Int) z0 []
theorem b_eq:ac7 Z 13 [vL a 9 c] []=b Z.R Z.D (L0 Z) a c:=by kernel_rfl
def L0b:Q->D->Ta9->Ta9:=fun a5 _ a4 a d e f g=>bif (decide (f<e)) then idxK d f fun i=>aTy (V.cells i) fun l p s v y C E H K P S a0 a1=>(cS (a5 ax1 [vT l p s v y C E H K P S a0 a1,vI 0,vO g.length 0] (g++[O.box [(vI 0,false)]])) (fun a2 c=>aB a2 fun a3=>bif (!a3) then retR [vB false] c else a4 a d e (w6 (f+z1)) c) panK) else retR [vB true] g
theorem ag9:ae4 Z 13 .body L0P (L0F a d e f g)=L0b Z.R Z.D (L0 Z) a d e f g:=by kernel_rfl
theorem b_of {o}(h:b RZ.R RZ.D (L0 RZ) a c=some o):RZ.R aq2 [vL a 9 c] []=some o:=ab7 ((b_eq RZ ..).trans h)
theorem ag6 {o}(h:L0b RZ.R RZ.D (L0 RZ) a d e f g=some o):L0 RZ a d e f g=some o:=ac9 ((ag9 RZ ..).trans h)
end
end am7
namespace aM8
section
variable (a:Int)(c d:Y)(e f:Int)(g:B)(i:W)(j:B)(k:W)(l:B)(m:W)(n:B)(p:W)(q:Nat)(r:Lo)
def b:Q->D->Int->Y->Y->Int->Int->B->W->B->W->B->W->B->W->Nat->Lo->R:=fun _ _ _ c _ _ _ _ _ _ _ _ _ _ _ q r=>rd1 r q 1 fun s=>aS s fun t=>retR [vB (c.toList==t.toList)] r
theorem b_eq:ac7 Z 26 [vT a c d e f g i j k l m n p,vO q 0] r=b Z.R Z.D a c d e f g i j k l m n p q r:=by kernel_rfl
theorem b_of {o}(h:b RZ.R RZ.D a c d e f g i j k l m n p q r=some o):RZ.R bx0 [vT a c d e f g i j k l m n p,vO q 0] r=some o:=ab7 ((b_eq RZ ..).trans h)
end
end aM8
namespace aC8
section
variable (a:B)(c:Int)
def J0P:List Nat:=[0,1]
def J0F:St:=⟨mkT 29 [(2,vB a,.no)],mkA 0 [],0,[],[],[]⟩
def J0:=Z.X 98 .body J0P (J0F a)
def b:Q->D->(B->R)->Int->R:=fun _ _ a c=>bif (decide (c>32)) then bif (decide (c<127)) then bif (c !=(93:Int)) then bif (c !=(44:Int)) then bif (c !=(125:Int)) then bif (c !=(59:Int)) then a (c !=(62:Int)) else a false else a false else a false else a false else a false else a false
theorem b_eq:ac7 Z 98 [vU c] []=b Z.R Z.D (J0 Z) c:=by kernel_rfl
def J0b:Q->D->B->R:=fun _ _ a=>retR [vB a] []
theorem ab9:ac5 Z 98 .body J0P (J0F a)=J0b Z.R Z.D a:=by kernel_rfl
theorem b_of {o}(h:b RZ.R RZ.D (J0 RZ) c=some o):RZ.R aR5 [vU c] []=some o:=ab7 ((b_eq RZ ..).trans h)
theorem ad0 {o}(h:J0b RZ.R RZ.D a=some o):J0 RZ a=some o:=aa9 (by kernel_rfl) ((ab9 RZ ..).trans h)
end
end aC8
namespace ad7
section
variable (a:B)(c:W)(d:Y)(e:W)(f:Y)(g i:Int)
def L0P:List Nat:=[0,1,0,1]
def L0F:St:=⟨mkT 19 [(0,vL a 1 e,.no),(1,vS f,.no),(7,vI g,.no),(8,vI i,.no)],mkA 0 [],0,[],[],[]⟩
def L0:=Z.X 99 .body L0P (L0F a e f g i)
def b:Q->D->Ta10->B->W->Y->R:=fun _ _ e a c d=>e a c d (c.length:Int) z0
theorem b_eq:ac7 Z 99 [vL a 1 c,vS d] []=b Z.R Z.D (L0 Z) a c d:=by kernel_rfl
def L0b:Q->D->Ta10->Ta10:=fun _ _ l a e f g i=>bif (decide (i<g)) then idxK e i fun c=>aC (V.cells c) fun d j=>aS d fun k=>aN j (bif (f.toList==k.toList) then retR [vI i] [] else l a e f g (w6 (i+z1))) else retR [vI (-1)] []
theorem ag9:ae4 Z 99 .body L0P (L0F a e f g i)=L0b Z.R Z.D (L0 Z) a e f g i:=by kernel_rfl
theorem b_of {o}(h:b RZ.R RZ.D (L0 RZ) a c d=some o):RZ.R an8 [vL a 1 c,vS d] []=some o:=ab7 ((b_eq RZ ..).trans h)
theorem ag6 {o}(h:L0b RZ.R RZ.D (L0 RZ) a e f g i=some o):L0 RZ a e f g i=some o:=ac9 ((ag9 RZ ..).trans h)
end
end ad7
end
end Go.Proofs.YtflhfchgdpbhcaaGreat.E
