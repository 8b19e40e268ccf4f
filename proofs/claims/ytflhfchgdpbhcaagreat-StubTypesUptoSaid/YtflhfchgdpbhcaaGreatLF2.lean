/- It is proved of functions that StubTypes reaches what their evaluation is, in plain words. No condition. -/
import Derived.Test.YtflhfchgdpbhcaaGreatLH
set_option maxRecDepth 100000
set_option maxHeartbeats 40000
namespace Go.Proofs.YtflhfchgdpbhcaaGreat.E
open Go
noncomputable section
abbrev Tc0:=B->W->Int->Int->R
abbrev Tc1:=B->W->Int->Int->Int->Int->Int->R
abbrev Tc2:=Int->Nat->Nat->Int->Y->Y->Int->Int->B->W->B->W->B->W->B->W->B->Lo->R
abbrev Tc3:=Int->Nat->Nat->Int->Y->Y->Int->Int->B->W->B->W->B->W->B->W->Lo->Nat->Nat->R
abbrev Tc4:=Int->Nat->Nat->Int->Y->Y->Int->Int->B->W->B->W->B->W->B->W->Lo->R
abbrev Tc5:=Int->Nat->Nat->B->W->Int->Int->Lo->Nat->Nat->R
abbrev Tc6:=Int->Nat->Nat->B->W->Int->Int->Lo->R
abbrev Tc7:=B->Int->Y->Y->Int->Int->B->W->B->W->B->W->B->W->W->W->W->W->Lo->R
abbrev Tc8:=B->W->V->Int->Int->Lo->R
variable (Z:Env)
namespace ah1
section
variable (a:B)(c:W)(d:V)(e:Lo)
def b:Q->D->B->W->V->Lo->R:=fun j _ a c d e=>ck ([vL a 11 c,d].all am0) (cS (j ah6 [vL a 11 c,d] e) (fun f g=>aI f fun i=>retR [vB (decide (i>=0))] g) panK)
theorem b_eq:ac7 Z 22 [vL a 11 c,d] e=b Z.R Z.D a c d e:=by kernel_rfl
theorem b_of {o}(h:b RZ.R RZ.D a c d e=some o):RZ.R ag4 [vL a 11 c,d] e=some o:=ab7 ((b_eq RZ ..).trans h)
end
end ah1
namespace ae7
section
variable (a:B)(f c:W)(d e g i j:Int)
def L0P:List Nat:=[0,1,0,1]
def L0F:St:=⟨mkT 25 [(0,vL a 1 c,.no),(6,vI d,.no),(7,vI e,.no)],mkA 0 [],0,[],[],[]⟩
def L0:=Z.X 30 .body L0P (L0F a c d e)
def L1P:List Nat:=[0,1,1,0,0,1,1,0,0,1,0,1]
def L1F:St:=⟨mkT 25 [(0,vL a 1 c,.no),(3,vI d,.no),(6,vI e,.no),(7,vI g,.no),(10,vI i,.no),(11,vI j,.no)],mkA 0 [],0,[],[],[]⟩
def L1:=Z.X 30 .body L1P (L1F a c d e g i j)
def b:Q->D->Tc0->B->W->R:=fun _ _ c a f=>c a f (f.length:Int) z0
theorem b_eq:ac7 Z 30 [vL a 1 f] []=b Z.R Z.D (L0 Z) a f:=by kernel_rfl
def L0b:Q->D->Tc1->Tc0:=fun _ _ f a c d e=>bif (decide (e<d)) then f a c e d e e z0 else retR [vB false] []
theorem ag9:ae4 Z 30 .body L0P (L0F a c d e)=L0b Z.R Z.D (L1 Z) a c d e:=by kernel_rfl
def L1b:Q->D->Tc0->Tc1->Tc1:=fun _ _ s t a c d e g i j=>bif (decide (j<i)) then idxK c d fun f=>aC (V.cells f) fun k l=>aS k fun m=>aN l (idxK c j fun n=>aC (V.cells n) fun p q=>aS p fun r=>aN q (bif (m.toList==r.toList) then retR [vB true] [] else t a c d e g i (w6 (j+z1)))) else s a c e (w6 (g+z1))
theorem ak9:ae4 Z 30 .body L1P (L1F a c d e g i j)=L1b Z.R Z.D (L0 Z) (L1 Z) a c d e g i j:=by kernel_rfl
theorem b_of {o}(h:b RZ.R RZ.D (L0 RZ) a f=some o):RZ.R as7 [vL a 1 f] []=some o:=ab7 ((b_eq RZ ..).trans h)
theorem ag6 {o}(h:L0b RZ.R RZ.D (L1 RZ) a c d e=some o):L0 RZ a c d e=some o:=ac9 ((ag9 RZ ..).trans h)
theorem ak4 {o}(h:L1b RZ.R RZ.D (L0 RZ) (L1 RZ) a c d e g i j=some o):L1 RZ a c d e g i j=some o:=ac9 ((ak9 RZ ..).trans h)
end
end ae7
namespace aa2
section
variable (d:Int)(C:Lo)(a c:Nat)(k:Int)(l m:Y)(f:B)(g:W)(i e:Int)(j:Lo)(x y:Nat)(n:Int)(p:B)(q:W)(r:B)(s:W)(t:B)(u:W)(v:B)(w:W)(E:Lo)(F G:Nat)(z:B)(A:Lo)(H K:Nat)(L:Int)(M P:Y)(S T:Int)(X:B)(a0:W)(a1:B)(a2:W)(a3:B)(a4:W)(a5:B)(a6:W)(a7:Int)(a8:Lo)
def J0P:List Nat:=[0,0,1,1]
def J0F:St:=⟨mkT 119 [(2,vI d,.no),(3,vR [vO a c],.no),(4,vQ k l m e n p q r s t u v w,.no),(50,vB z,.no)],mkA 2 [],0,[],A,[]⟩
def J0:=Z.X 39 .body J0P (J0F d a c k l m e n p q r s t u v w z A)
def J1P:List Nat:=[0,0,1,1,1,1]
def J1F:St:=⟨mkT 119 [(2,vI d,.no),(3,vR [vO a c],.no),(4,vQ k l m e n p q r s t u v w,.no),(67,vB z,.no)],mkA 2 [],0,[],A,[]⟩
def J1:=Z.X 39 .body J1P (J1F d a c k l m e n p q r s t u v w z A)
def J2P:List Nat:=[0,0,1,1,1,1,1]
def J2F:St:=⟨mkT 119 [(2,vI d,.no),(3,vR [vO a c],.no),(4,vQ k l m e n p q r s t u v w,.no),(83,vB z,.no)],mkA 2 [],0,[],A,[]⟩
def J2:=Z.X 39 .body J2P (J2F d a c k l m e n p q r s t u v w z A)
def J3P:List Nat:=[1,0,1,1,1,1,1,1]
def J3F:St:=⟨mkT 119 [(2,vI d,.no),(3,vR [vO a c],.no),(4,vQ k l m e n p q r s t u v w,.no)],mkA 2 [],0,[],E,[(52,[vR [vO F G]])]⟩
def J3:=Z.X 39 .body J3P (J3F d a c k l m e n p q r s t u v w E F G)
def L4P:List Nat:=[0,1,0,1,1,1,1,1,1,1]
def L4F:St:=⟨mkT 119 [(2,vI d,.no),(3,vR [vO a c],.no),(106,vL f 9 g,.no),(107,vI i,.no),(108,vI e,.no)],mkA 2 [],0,[],j,[(52,[vR [vO x y]])]⟩
def L4:=Z.X 39 .body L4P (L4F d a c f g i e j x y)
def J5P:List Nat:=[0,1,0,0,1,0,1,1,1,1,1,1,1]
def J5F:St:=⟨mkT 119 [(2,vI d,.no),(3,vR [vO a c],.no),(106,vL f 9 g,.no),(107,vI i,.no),(108,vI e,.no)],mkA 2 [],0,[],j,[(52,[vR [vO x y]])]⟩
def J5:=Z.X 39 .body J5P (J5F d a c f g i e j x y)
def J6P:List Nat:=[1,1,0,0,1,1,0,0,1,0,1,1,1,1,1,1,1]
def J6F:St:=⟨mkT 119 [(2,vI d,.no),(3,vR [vO a c],.no),(106,vL f 9 g,.no),(107,vI i,.no),(108,vI e,.no)],mkA 2 [],0,[],j,[(52,[vR [vO x y]])]⟩
def J6:=Z.X 39 .body J6P (J6F d a c f g i e j x y)
def J7P:List Nat:=[0,1,1,0,0,1,0,1,1,1,1,1,1,1]
def J7F:St:=⟨mkT 119 [(2,vI d,.no),(3,vR [vO a c],.no),(106,vL f 9 g,.no),(107,vI i,.no),(108,vI e,.no)],mkA 2 [],0,[],j,[(52,[vR [vO x y]])]⟩
def J7:=Z.X 39 .body J7P (J7F d a c f g i e j x y)
def J8P:List Nat:=[1,0,1,1,1,1,1,1,1]
def J8F:St:=⟨mkT 119 [],mkA 2 [],0,[],C,[(52,[vR [vO a c]])]⟩
def J8:=Z.X 39 .body J8P (J8F C a c)
def J9P:List Nat:=[1,0,1,1,1,1,1,1]
def J9F:St:=⟨mkT 119 [(2,vI d,.no),(3,vR [vO a c],.no),(4,vQ k l m e n p q r s t u v w,.no)],mkA 2 [],0,[],E,[]⟩
def J9:=Z.X 39 .body J9P (J9F d a c k l m e n p q r s t u v w E)
def L10P:List Nat:=[0,1,0,1,1,1,1,1,1,1]
def L10F:St:=⟨mkT 119 [(2,vI d,.no),(3,vR [vO a c],.no),(106,vL f 9 g,.no),(107,vI i,.no),(108,vI e,.no)],mkA 2 [],0,[],j,[]⟩
def L10:=Z.X 39 .body L10P (L10F d a c f g i e j)
def J11P:List Nat:=[0,1,0,0,1,0,1,1,1,1,1,1,1]
def J11F:St:=⟨mkT 119 [(2,vI d,.no),(3,vR [vO a c],.no),(106,vL f 9 g,.no),(107,vI i,.no),(108,vI e,.no)],mkA 2 [],0,[],j,[]⟩
def J11:=Z.X 39 .body J11P (J11F d a c f g i e j)
def J14P:List Nat:=[1,0,1,1,1,1,1,1,1]
def J14F:St:=⟨mkT 119 [],mkA 2 [],0,[],C,[]⟩
def J14:=Z.X 39 .body J14P (J14F C)
def b:Q->D->Tc2->Nat->Nat->Int->Y->Y->Int->Int->B->W->B->W->B->W->B->W->Int->Lo->R:=fun _ _ g H K L M P S T X a0 a1 a2 a3 a4 a5 a6 a7 a8=>rd1 a8 H (K+0) fun c=>aI c fun d=>wrO a8 H (K+0) [(vI (w6 (d+z1)),false)] fun a=>bif (decide (L<0)) then g a7 H K L M P S T X a0 a1 a2 a3 a4 a5 a6 true a else bif (decide (L>20)) then g a7 H K L M P S T X a0 a1 a2 a3 a4 a5 a6 true a else bif (decide (a7>16)) then g a7 H K L M P S T X a0 a1 a2 a3 a4 a5 a6 true a else rd1 a H (K+0) fun e=>aI e fun f=>bif (decide (f>300)) then g a7 H K L M P S T X a0 a1 a2 a3 a4 a5 a6 true a else bif (decide (a7>1)) then bif (L==z0) then g a7 H K L M P S T X a0 a1 a2 a3 a4 a5 a6 true a else g a7 H K L M P S T X a0 a1 a2 a3 a4 a5 a6 (L==(15:Int)) a else g a7 H K L M P S T X a0 a1 a2 a3 a4 a5 a6 false a
theorem b_eq:ac7 Z 39 [vO H K,vT L M P S T X a0 a1 a2 a3 a4 a5 a6,vI a7] a8=b Z.R Z.D (J0 Z) H K L M P S T X a0 a1 a2 a3 a4 a5 a6 a7 a8:=by kernel_rfl
def J0b:Q->D->Tc2->Tc2:=fun A4 _ A3 d a c k l m e n p q r s t u v w z A=>bif z then retR [vB false] A else aE2 [cS (A4 aH4 [] A) (fun d7 x=>aA d7 fun d8=>aC d8 fun d9 e0=>aC e0 fun e1 e2=>aC e2 fun e3 e4=>aC e4 fun e5 e6=>aC e6 fun e7 e8=>aC e8 fun e9 f0=>aC f0 fun f1 f2=>aC f2 fun f3 f4=>aC f4 fun f5 f6=>aC f6 fun f7 f8=>aC f8 fun f9 g0=>aC g0 fun g1 g2=>aC g2 fun g3 g4=>aC g4 fun g5 g6=>aC g6 fun g7 g8=>aC g8 fun g9 j0=>aC j0 fun j1 j2=>aC j2 fun j3 j4=>aC j4 fun j5 j6=>aC j6 fun j7 j8=>aC j8 fun j9 k0=>aN k0 (ck (decide (k<21)) (idxK [d9,e1,e3,e5,e7,e9,f1,f3,f5,f7,f9,g1,g3,g5,g7,g9,j1,j3,j5,j7,j9] k fun f=>aA8 [f] (aE2 [aV9 A4 f [vO a c,vT k l m e n p q r s t u v w] x (fun k1 g=>aT k1 fun k2=>aC k2 fun k3 k4=>aA k3 fun k5=>aTy k5 fun y C E F G H K L M P S T X=>(aC k4 fun m4 m5=>aB m4 fun m6=>aN m5 (bif (!m6) then A3 d a c k l m e n p q r s t u v w true g else ck (aa0 [vT y C E F G H K L M P S T X]) (cP (A4 au5 [vT y C E F G H K L M P S T X] []) (fun m7=>aB m7 fun m8=>A3 d a c k l m e n p q r s t u v w (!m8) g) fun m9=>panK m9 g)))) fun _ _=>none,aV9 A4 f [vO a c,vT k l m e n p q r s t u v w] x (fun n0 i=>aT n0 fun n1=>aC n1 fun n2 n3=>aA n2 fun n4=>aTy n4 fun a0 a1 a2 a3 a4 a5 a6 a7 a8 a9 c0 c1 c2=>(aC n3 fun q3 q4=>aB q3 fun q5=>aN q4 (bif (!q5) then A3 d a c k l m e n p q r s t u v w true i else ck (aa0 [vT a0 a1 a2 a3 a4 a5 a6 a7 a8 a9 c0 c1 c2]) (cP (A4 au5 [vT a0 a1 a2 a3 a4 a5 a6 a7 a8 a9 c0 c1 c2] []) (fun q6=>aB q6 fun q7=>A3 d a c k l m e n p q r s t u v w (!q7) i) fun q8=>panK q8 i)))) fun _ _=>none])))) fun _ _=>none,cS (A4 aH4 [] A) (fun q9 r0=>aA q9 fun r1=>aC r1 fun r2 r3=>aC r3 fun r4 r5=>aC r5 fun r6 r7=>aC r7 fun r8 r9=>aC r9 fun s0 s1=>aC s1 fun s2 s3=>aC s3 fun s4 s5=>aC s5 fun s6 s7=>aC s7 fun s8 s9=>aC s9 fun t0 t1=>aC t1 fun t2 t3=>aC t3 fun t4 t5=>aC t5 fun t6 t7=>aC t7 fun t8 t9=>aC t9 fun u0 u1=>aC u1 fun u2 u3=>aC u3 fun u4 u5=>aC u5 fun u6 u7=>aC u7 fun u8 u9=>aC u9 fun v0 v1=>aC v1 fun v2 v3=>aN v3 (ck (decide (k<21)) (idxK [r2,r4,r6,r8,s0,s2,s4,s6,s8,t0,t2,t4,t6,t8,u0,u2,u4,u6,u8,v0,v2] k fun c3=>aA8 [c3] (aV9 A4 c3 [vO a c,vT k l m e n p q r s t u v w] r0 (fun v4 j=>aT v4 fun v5=>aC v5 fun v6 v7=>aA v6 fun v8=>aTy v8 fun c4 c5 c6 c7 c8 c9 d0 d1 d2 d3 d4 d5 d6=>(aC v7 fun y7 y8=>aB y7 fun y9=>aN y8 (bif (!y9) then A3 d a c k l m e n p q r s t u v w true j else ck (aa0 [vT c4 c5 c6 c7 c8 c9 d0 d1 d2 d3 d4 d5 d6]) (cP (A4 au5 [vT c4 c5 c6 c7 c8 c9 d0 d1 d2 d3 d4 d5 d6] []) (fun A0=>aB A0 fun A1=>A3 d a c k l m e n p q r s t u v w (!A1) j) fun A2=>panK A2 j)))) fun _ _=>none)))) fun _ _=>none]
theorem ab9:ac5 Z 39 .body J0P (J0F d a c k l m e n p q r s t u v w z A)=J0b Z.R Z.D (J1 Z) d a c k l m e n p q r s t u v w z A:=by kernel_rfl
def J1b:Q->D->Tc2->Tc2:=fun y _ x d a c k l m e n p q r s t u v w z A=>bif z then retR [vB false] A else bif (!(l.toList==(⟨#[]⟩:ByteArray).toList)) then bif (k !=(20:Int)) then rd1 A a (c+1) fun f=>ck ([f,V.func (.func 51) [] [vQ k l m e n p q r s t u v w]].all am0) (cS (y af6 [f,V.func (.func 51) [] [vQ k l m e n p q r s t u v w]] A) (fun g i=>aB g fun j=>x d a c k l m e n p q r s t u v w j i) panK) else x d a c k l m e n p q r s t u v w false A else x d a c k l m e n p q r s t u v w false A
theorem ak2:ac5 Z 39 .body J1P (J1F d a c k l m e n p q r s t u v w z A)=J1b Z.R Z.D (J2 Z) d a c k l m e n p q r s t u v w z A:=by kernel_rfl
def J2b:Q->D->Tc3->Tc4->Tc2:=fun _ _ j x d a c k l m e n p q r s t u v w z A=>bif z then retR [vB false] A else bif (k !=(20:Int)) then rd1 A a (c+1) fun g=>(apS 3 32 A (g,.no) (vL true 3 [vA [vS l,vI k,vB (k==(12:Int))]])).bind fun f=>ck (V.good f.1) (wrO f.2 a (c+1) [(f.1,nilB f.1)] fun i=>j d a c k l m e n p q r s t u v w i a c) else x d a c k l m e n p q r s t u v w A
theorem ah0:ac5 Z 39 .body J2P (J2F d a c k l m e n p q r s t u v w z A)=J2b Z.R Z.D (J3 Z) (J9 Z) d a c k l m e n p q r s t u v w z A:=by kernel_rfl
def J3b:Q->D->Tc5->Tc3:=fun _ _ f d a c _ _ _ _ _ _ _ r s _ _ _ _ E F G=>f d a c r s (s.length:Int) z0 E F G
theorem aw4:ac5 Z 39 .body J3P (J3F d a c k l m e n p q r s t u v w E F G)=J3b Z.R Z.D (L4 Z) d a c k l m e n p q r s t u v w E F G:=by kernel_rfl
def L4b:Q->D->Tc5->(Lo->Nat->Nat->R)->Tc5:=fun _ _ k l d a c f g i e j x y=>bif (decide (e<i)) then k d a c f g i e j x y else l j x y
theorem aF3:ae4 Z 39 .body L4P (L4F d a c f g i e j x y)=L4b Z.R Z.D (J5 Z) (J8 Z) d a c f g i e j x y:=by kernel_rfl
def J5b:Q->D->Tc5->Tc5:=fun c4 c5 c3 d a c f g i e j x y=>idxK g e fun m=>aTy (V.cells m) fun q t w C G L M T X a2 a3 a6 a7=>(cS (c4 aj1 [vO a c,vT q t w C G L M T X a2 a3 a6 a7,vI (w6 (d+z1))] j) (fun a8 k=>aB a8 fun a9=>bif (!a9) then drK (c5 none 52 [vR [vO x y]] k) fun c0=>retR [vB false] c0 else c3 d a c f g i e k x y) fun l c1=>drK (c5 (some l) 52 [vR [vO x y]] c1) fun c2=>panK l c2)
theorem aA0:ac5 Z 39 .body J5P (J5F d a c f g i e j x y)=J5b Z.R Z.D (J6 Z) d a c f g i e j x y:=by kernel_rfl
def J6b:Q->D->Tc5->Tc5:=fun _ _ k d a c f g i e j x y=>k d a c f g i e j x y
theorem aN8:ac5 Z 39 .body J6P (J6F d a c f g i e j x y)=J6b Z.R Z.D (J7 Z) d a c f g i e j x y:=by kernel_rfl
def J7b:Q->D->Tc5->Tc5:=fun _ _ k d a c f g i e j x y=>k d a c f g i (w6 (e+z1)) j x y
theorem J7b_eq:ac5 Z 39 .body J7P (J7F d a c f g i e j x y)=J7b Z.R Z.D (L4 Z) d a c f g i e j x y:=by kernel_rfl
def J8b:Q->D->Lo->Nat->Nat->R:=fun _ e C a c=>drK (e none 52 [vR [vO a c]] C) fun d=>retR [vB true] d
theorem bt1:ac5 Z 39 .body J8P (J8F C a c)=J8b Z.R Z.D C a c:=by kernel_rfl
def J9b:Q->D->Tc6->Tc4:=fun _ _ f d a c _ _ _ _ _ _ _ r s _ _ _ _ E=>f d a c r s (s.length:Int) z0 E
theorem bt0:ac5 Z 39 .body J9P (J9F d a c k l m e n p q r s t u v w E)=J9b Z.R Z.D (L10 Z) d a c k l m e n p q r s t u v w E:=by kernel_rfl
def L10b:Q->D->Tc6->(Lo->R)->Tc6:=fun _ _ k l d a c f g i e j=>bif (decide (e<i)) then k d a c f g i e j else l j
theorem L10b_eq:ae4 Z 39 .body L10P (L10F d a c f g i e j)=L10b Z.R Z.D (J11 Z) (J14 Z) d a c f g i e j:=by kernel_rfl
def J14b:Q->D->Lo->R:=fun _ _ C=>retR [vB true] C
theorem J14b_eq:ac5 Z 39 .body J14P (J14F C)=J14b Z.R Z.D C:=by kernel_rfl
theorem b_of {o}(h:b RZ.R RZ.D (J0 RZ) H K L M P S T X a0 a1 a2 a3 a4 a5 a6 a7 a8=some o):RZ.R aj1 [vO H K,vT L M P S T X a0 a1 a2 a3 a4 a5 a6,vI a7] a8=some o:=ab7 ((b_eq RZ ..).trans h)
theorem ad0 {o}(h:J0b RZ.R RZ.D (J1 RZ) d a c k l m e n p q r s t u v w z A=some o):J0 RZ d a c k l m e n p q r s t u v w z A=some o:=aa9 (by kernel_rfl) ((ab9 RZ ..).trans h)
theorem an7 {o}(h:J1b RZ.R RZ.D (J2 RZ) d a c k l m e n p q r s t u v w z A=some o):J1 RZ d a c k l m e n p q r s t u v w z A=some o:=aa9 (by kernel_rfl) ((ak2 RZ ..).trans h)
theorem ak5 {o}(h:J2b RZ.R RZ.D (J3 RZ) (J9 RZ) d a c k l m e n p q r s t u v w z A=some o):J2 RZ d a c k l m e n p q r s t u v w z A=some o:=aa9 (by kernel_rfl) ((ah0 RZ ..).trans h)
theorem aH9 {o}(h:J3b RZ.R RZ.D (L4 RZ) d a c k l m e n p q r s t u v w E F G=some o):J3 RZ d a c k l m e n p q r s t u v w E F G=some o:=aa9 (by kernel_rfl) ((aw4 RZ ..).trans h)
theorem aE4 {o}(h:L4b RZ.R RZ.D (J5 RZ) (J8 RZ) d a c f g i e j x y=some o):L4 RZ d a c f g i e j x y=some o:=ac9 ((aF3 RZ ..).trans h)
theorem aM6 {o}(h:J5b RZ.R RZ.D (J6 RZ) d a c f g i e j x y=some o):J5 RZ d a c f g i e j x y=some o:=aa9 (by kernel_rfl) ((aA0 RZ ..).trans h)
theorem aV8 {o}(h:J6b RZ.R RZ.D (J7 RZ) d a c f g i e j x y=some o):J6 RZ d a c f g i e j x y=some o:=aa9 (by kernel_rfl) ((aN8 RZ ..).trans h)
theorem J7_of {o}(h:J7b RZ.R RZ.D (L4 RZ) d a c f g i e j x y=some o):J7 RZ d a c f g i e j x y=some o:=aa9 (by kernel_rfl) ((J7b_eq RZ ..).trans h)
theorem bF7 {o}(h:J8b RZ.R RZ.D C a c=some o):J8 RZ C a c=some o:=aa9 (by kernel_rfl) ((bt1 RZ ..).trans h)
theorem J9_of {o}(h:J9b RZ.R RZ.D (L10 RZ) d a c k l m e n p q r s t u v w E=some o):J9 RZ d a c k l m e n p q r s t u v w E=some o:=aa9 (by kernel_rfl) ((bt0 RZ ..).trans h)
theorem L10_of {o}(h:L10b RZ.R RZ.D (J11 RZ) (J14 RZ) d a c f g i e j=some o):L10 RZ d a c f g i e j=some o:=ac9 ((L10b_eq RZ ..).trans h)
theorem J14_of {o}(h:J14b RZ.R RZ.D C=some o):J14 RZ C=some o:=aa9 (by kernel_rfl) ((J14b_eq RZ ..).trans h)
end
end aa2
namespace aw3
section
variable (a:Y)(c:Int)(d:B)(e:Int)(f g:Y)(i j:Int)(k:B)(l:W)(m:B)(n:W)(p:B)(q:W)(r:B)(s:W)
def b:Q->D->Y->Int->B->Int->Y->Y->Int->Int->B->W->B->W->B->W->B->W->R:=fun _ _ a _ _ _ f _ _ _ _ _ _ _ _ _ _ _=>retR [vB (a.toList==f.toList)] []
theorem b_eq:ac7 Z 51 [vA [vS a,vI c,vB d],vQ e f g i j k l m n p q r s] []=b Z.R Z.D a c d e f g i j k l m n p q r s:=by kernel_rfl
theorem b_of {o}(h:b RZ.R RZ.D a c d e f g i j k l m n p q r s=some o):RZ.R bf7 [vA [vS a,vI c,vB d],vQ e f g i j k l m n p q r s] []=some o:=ab7 ((b_eq RZ ..).trans h)
end
end aw3
namespace bh9
section
variable (a:Int)(c:Lo)
def b:Q->D->Int->Lo->R:=fun _ _ a c=>retR [V.func (.func 62) [] [vR [vI a]]] c
theorem b_eq:ac7 Z 61 [vI a] c=b Z.R Z.D a c:=by kernel_rfl
theorem b_of {o}(h:b RZ.R RZ.D a c=some o):RZ.R aA7 [vI a] c=some o:=ab7 ((b_eq RZ ..).trans h)
end
end bh9
namespace ay5
section
variable (a:B)(c:Int)(d e:Y)(f g:Int)(i:B)(j:W)(k:B)(l:W)(m:B)(n:W)(p:B)(q r s t u:W)(v:Lo)(w x:Nat)(y:Int)(z A:Y)(C E:Int)(F:B)(G:W)(H:B)(K:W)(L:B)(M:W)(P:B)(S:W)(T:Lo)
def J0P:List Nat:=[0,1]
def J0F:St:=⟨mkT 20 [(3,V.loc 0 0,.no),(4,V.loc 1 0,.no),(6,vB a,.no)],mkA 2 [(0,[(vI c,.no),(vS d,.no),(vS e,.no),(vI f,.no),(vI g,.no),(vL i 1 j,.no),(vL k 9 l,.no),(vL m 1 n,.no),(vL p 3 q,.no)]),(1,[(vI 0,.no),(vS (⟨#[]⟩:ByteArray),.no),(vS (⟨#[]⟩:ByteArray),.no),(vI 0,.no),(vI 0,.no),(vL false 1 r,.full),(vL false 9 s,.full),(vL false 1 t,.full),(vL false 3 u,.full)])],0,[],v,[]⟩
def J0:=Z.X 72 .body J0P (J0F a c d e f g i j k l m n p q r s t u v)
def b:Q->D->Tc7->Nat->Nat->Int->Y->Y->Int->Int->B->W->B->W->B->W->B->W->Lo->R:=fun f _ e _ _ y z A C E F G H K L M P S T=>ck (aa0 [vT y z A C E F G H K L M P S]) (cP (f ar7 [vT y z A C E F G H K L M P S] []) (fun a=>aB a fun c=>bif c then e ((K.length:Int)==z1) y z A C E F G H K L M P S [] [] [] [] T else e false y z A C E F G H K L M P S [] [] [] [] T) fun d=>panK d T)
theorem b_eq:ac7 Z 72 [vO w x,vT y z A C E F G H K L M P S] T=b Z.R Z.D (J0 Z) w x y z A C E F G H K L M P S T:=by kernel_rfl
def J0b:Q->D->Tc7:=fun _ _ a c _ _ f g i j _ _ m n p q _ _ _ _ v=>retR [vT c (⟨#[]⟩:ByteArray) (⟨#[]⟩:ByteArray) f g i j false [] m n p q,vB a] v
theorem ab9:ac5 Z 72 .body J0P (J0F a c d e f g i j k l m n p q r s t u v)=J0b Z.R Z.D a c d e f g i j k l m n p q r s t u v:=by kernel_rfl
theorem b_of {o}(h:b RZ.R RZ.D (J0 RZ) w x y z A C E F G H K L M P S T=some o):RZ.R i_kind_rules_9 [vO w x,vT y z A C E F G H K L M P S] T=some o:=ab7 ((b_eq RZ ..).trans h)
theorem ad0 {o}(h:J0b RZ.R RZ.D a c d e f g i j k l m n p q r s t u v=some o):J0 RZ a c d e f g i j k l m n p q r s t u v=some o:=aa9 (by kernel_rfl) ((ab9 RZ ..).trans h)
end
end ay5
namespace au9
section
variable (a:Int)(c:B)(d:Int)
def J0P:List Nat:=[1,0,1,1,1,1,1,1,0,1,0,1]
def J0F:St:=⟨mkT 26 [(3,vI a,.no),(10,vB c,.no)],mkA 0 [],0,[],[],[]⟩
def J0:=Z.X 79 .body J0P (J0F a c)
def J1P:List Nat:=[1,0,1,1,1,1,1,1,1,1,1,1,0,1,0,1]
def J1F:St:=⟨mkT 26 [(3,vI a,.no),(15,vB c,.no)],mkA 0 [],0,[],[],[]⟩
def J1:=Z.X 79 .body J1P (J1F a c)
def b:Q->D->(Int->B->R)->Int->R:=fun _ _ a d=>bif (d==(7:Int)) then retR [vI 4] [] else bif (d==(8:Int)) then retR [vI 12] [] else bif (d==(9:Int)) then retR [vI 19] [] else bif (d==(10:Int)) then a d (d==(10:Int)) else a d (d==(15:Int))
theorem b_eq:ac7 Z 79 [vI d] []=b Z.R Z.D (J0 Z) d:=by kernel_rfl
def J0b:Q->D->(Int->B->R)->Int->B->R:=fun _ _ d a c=>bif c then retR [vI 51] [] else bif (a==(11:Int)) then retR [vI 119] [] else bif (a==(12:Int)) then d a (a==(12:Int)) else d a (a==(13:Int))
theorem ab9:ac5 Z 79 .body J0P (J0F a c)=J0b Z.R Z.D (J1 Z) a c:=by kernel_rfl
def J1b:Q->D->Int->B->R:=fun _ _ a c=>bif c then retR [vI 36] [] else bif (a==(14:Int)) then retR [vI 35] [] else bif (a==(16:Int)) then retR [vI 3] [] else bif (a==(17:Int)) then retR [vI 179] [] else bif (a==(20:Int)) then retR [vI 1] [] else retR [vI 0] []
theorem ak2:ac5 Z 79 .body J1P (J1F a c)=J1b Z.R Z.D a c:=by kernel_rfl
theorem b_of {o}(h:b RZ.R RZ.D (J0 RZ) d=some o):RZ.R at6 [vI d] []=some o:=ab7 ((b_eq RZ ..).trans h)
theorem ad0 {o}(h:J0b RZ.R RZ.D (J1 RZ) a c=some o):J0 RZ a c=some o:=aa9 (by kernel_rfl) ((ab9 RZ ..).trans h)
theorem an7 {o}(h:J1b RZ.R RZ.D a c=some o):J1 RZ a c=some o:=aa9 (by kernel_rfl) ((ak2 RZ ..).trans h)
end
end au9
namespace ac6
section
variable (a:B)(d e:W)(c:V)(f:Lo)(g i:Int)(j:Lo)
def L0P:List Nat:=[0,1,0,1]
def L0F:St:=⟨mkT 19 [(0,vL a 3 e,.no),(1,c,.no),(7,vI g,.no),(8,vI i,.no)],mkA 0 [],0,[],j,[]⟩
def L0:=Z.X 100 .body L0P (L0F a e c g i j)
def b:Q->D->Tc8->B->W->V->Lo->R:=fun _ _ e a d c f=>e a d c (d.length:Int) z0 f
theorem b_eq:ac7 Z 100 [vL a 3 d,c] f=b Z.R Z.D (L0 Z) a d c f:=by kernel_rfl
def L0b:Q->D->Tc8->Tc8:=fun x _ w a e c g i j=>bif (decide (i<g)) then idxK e i fun f=>aC (V.cells f) fun k l=>aS k fun m=>aC l fun n p=>aI n fun q=>aC p fun r s=>aB r fun t=>aN s (aV9 x c [vA [vS m,vI q,vB t]] j (fun u d=>aB u fun v=>bif v then retR [vI i] d else w a e c g (w6 (i+z1)) d) panK) else retR [vI (-1)] j
theorem ag9:ae4 Z 100 .body L0P (L0F a e c g i j)=L0b Z.R Z.D (L0 Z) a e c g i j:=by kernel_rfl
theorem b_of {o}(h:b RZ.R RZ.D (L0 RZ) a d c f=some o):RZ.R aj6 [vL a 3 d,c] f=some o:=ab7 ((b_eq RZ ..).trans h)
theorem ag6 {o}(h:L0b RZ.R RZ.D (L0 RZ) a e c g i j=some o):L0 RZ a e c g i j=some o:=ac9 ((ag9 RZ ..).trans h)
end
end ac6
end
end Go.Proofs.YtflhfchgdpbhcaaGreat.E
