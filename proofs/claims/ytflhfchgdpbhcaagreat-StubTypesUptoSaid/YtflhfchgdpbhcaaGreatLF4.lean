/- It is proved of functions that StubTypes reaches what their evaluation is, in plain words. No condition. -/
import Derived.Test.YtflhfchgdpbhcaaGreatLH
set_option maxRecDepth 100000
set_option maxHeartbeats 40000
namespace Go.Proofs.YtflhfchgdpbhcaaGreat.E
open Go
noncomputable section
abbrev Te0:=Int->Y->Y->Int->Int->B->W->B->W->B->W->B->W->R
abbrev Te1:=Nat->Nat->Int->Y->Y->Int->Int->B->W->B->W->B->W->B->W->Lo->R
abbrev Te2:=B->W->Int->Int->B->W->Int->Int->R
abbrev Te3:=B->W->Int->Int->B->W->Int->Int->B->R
abbrev Te4:=Int->Y->Y->Int->Int->B->W->B->W->B->W->B->W->B->Int->Y->Y->Int->Int->B->W->B->W->B->W->B->W->R
abbrev Te5:=Int->Y->Y->Int->Int->B->W->B->W->B->W->B->W->B->W->Int->Int->Int->Y->Y->Int->Int->B->W->B->W->B->W->B->W->List (V×V)->Nat->R
abbrev Te6:=Int->Y->Y->Int->Int->B->W->B->W->B->W->B->W->B->W->B->W->Int->Int->B->Int->Y->Y->Int->Int->B->W->B->W->B->W->B->W->List (V×V)->Nat->R
abbrev Te7:=Int->Y->Y->Int->Int->B->W->B->W->B->W->B->W->B->List (V×V)->Nat->R
abbrev Te8:=Int->Y->Y->Int->Int->B->W->B->W->B->W->B->W->B->W->Int->Int->B->W->Int->Int->Int->Y->Y->Int->Int->B->W->B->W->B->W->B->W->List (V×V)->Nat->R
abbrev Te9:=Int->Y->Y->Int->Int->B->W->B->W->B->W->B->W->Int->B->W->Int->Int->B->W->Int->Int->B->Int->Y->Y->Int->Int->B->W->B->W->B->W->B->W->List (V×V)->Nat->R
abbrev Te10:=B->List (V×V)->Nat->R
abbrev Te11:=B->Int->Y->Y->Int->Int->B->W->B->W->B->W->B->W->W->W->W->W->Lo->R
variable (Z:Env)
namespace aC5
section
variable (a:B)
def J0P:List Nat:=[0,1,1,1,1]
def J0F:St:=⟨mkT 62 [(0,vB a,.no)],mkA 3 [],0,[],[],[]⟩
def J0:=Z.X 5 .body J0P (J0F a)
def b:Q->D->(B->R)->R:=fun e3 _ e2=>ck (aa0 [vA [vS (⟨#[102]⟩:ByteArray),vB false,vI 5,vS (⟨#[]⟩:ByteArray),vS (⟨#[]⟩:ByteArray),vI 0,vI 0,vL false 1 [],vL false 9 [],vL false 1 [],vL false 3 [],vL true 11 [vA [vS (⟨#[97]⟩:ByteArray),vI 1,vI 7,vS (⟨#[]⟩:ByteArray),vS (⟨#[]⟩:ByteArray),vI 0,vI 0,vL false 1 [],vL false 9 [],vL false 1 [],vL false 3 []],vA [vS (⟨#[98]⟩:ByteArray),vI 2,vI 5,vS (⟨#[]⟩:ByteArray),vS (⟨#[]⟩:ByteArray),vI 0,vI 0,vL false 1 [],vL false 9 [],vL false 1 [],vL false 3 []]],vL false 9 []]]) (aH8 (e3 ax8 [vA [vS (⟨#[102]⟩:ByteArray),vB false,vI 5,vS (⟨#[]⟩:ByteArray),vS (⟨#[]⟩:ByteArray),vI 0,vI 0,vL false 1 [],vL false 9 [],vL false 1 [],vL false 3 [],vL true 11 [vA [vS (⟨#[97]⟩:ByteArray),vI 1,vI 7,vS (⟨#[]⟩:ByteArray),vS (⟨#[]⟩:ByteArray),vI 0,vI 0,vL false 1 [],vL false 9 [],vL false 1 [],vL false 3 []],vA [vS (⟨#[98]⟩:ByteArray),vI 2,vI 5,vS (⟨#[]⟩:ByteArray),vS (⟨#[]⟩:ByteArray),vI 0,vI 0,vL false 1 [],vL false 9 [],vL false 1 [],vL false 3 []]],vL false 9 []]] []) (fun d=>aT d fun e=>aC e fun f g=>aA f fun i=>aTy i fun _ _ _ _ _ _ c _ _ _ _ _ _=>(aC g fun E F=>aI E fun G=>aN F (ck (aa0 [vA [vS (⟨#[102]⟩:ByteArray),vB false,vI 5,vS (⟨#[]⟩:ByteArray),vS (⟨#[]⟩:ByteArray),vI 0,vI 0,vL false 1 [],vL false 9 [],vL false 1 [],vL false 3 [],vL true 11 [vA [vS (⟨#[97]⟩:ByteArray),vI 1,vI 7,vS (⟨#[]⟩:ByteArray),vS (⟨#[]⟩:ByteArray),vI 0,vI 0,vL false 1 [],vL false 9 [],vL false 1 [],vL false 3 []],vA [vS (⟨#[98]⟩:ByteArray),vI 2,vI 5,vS (⟨#[]⟩:ByteArray),vS (⟨#[]⟩:ByteArray),vI 0,vI 0,vL false 1 [],vL false 9 [],vL false 1 [],vL false 3 []]],vL false 9 []]]) (aH8 (e3 aC9 [vA [vS (⟨#[102]⟩:ByteArray),vB false,vI 5,vS (⟨#[]⟩:ByteArray),vS (⟨#[]⟩:ByteArray),vI 0,vI 0,vL false 1 [],vL false 9 [],vL false 1 [],vL false 3 [],vL true 11 [vA [vS (⟨#[97]⟩:ByteArray),vI 1,vI 7,vS (⟨#[]⟩:ByteArray),vS (⟨#[]⟩:ByteArray),vI 0,vI 0,vL false 1 [],vL false 9 [],vL false 1 [],vL false 3 []],vA [vS (⟨#[98]⟩:ByteArray),vI 2,vI 5,vS (⟨#[]⟩:ByteArray),vS (⟨#[]⟩:ByteArray),vI 0,vI 0,vL false 1 [],vL false 9 [],vL false 1 [],vL false 3 []]],vL false 9 []]] []) (fun H=>aT H fun K=>aC K fun L M=>aA L fun P=>aTy P fun _ _ _ _ _ _ a _ _ _ _ _ _=>(aC M fun c5 c6=>aI c5 fun c7=>aN c6 (bif (G==z0) then bif ((c.length:Int)==z1) then idxK c z0 fun c8=>aC (V.cells c8) fun c9 d0=>aS c9 fun d1=>aN d0 (bif (d1.toList==(⟨#[97]⟩:ByteArray).toList) then bif (c7==z0) then bif ((a.length:Int)==(2:Int)) then idxK a z0 fun d2=>aC (V.cells d2) fun d3 d4=>aS d3 fun d5=>aN d4 (bif (d5.toList==(⟨#[118,111,105,100]⟩:ByteArray).toList) then idxK a z1 fun d6=>aC (V.cells d6) fun d7 d8=>aS d7 fun d9=>aN d8 (e2 (d9.toList==(⟨#[98]⟩:ByteArray).toList)) else e2 false) else e2 false else e2 false else e2 false) else e2 false else e2 false))) fun e0=>panK e0 [])))) fun e1=>panK e1 [])
theorem b_eq:ac7 Z 5 [] []=b Z.R Z.D (J0 Z):=by kernel_rfl
def J0b:Q->D->B->R:=fun _ _ a=>retR [vB a] []
theorem ab9:ac5 Z 5 .body J0P (J0F a)=J0b Z.R Z.D a:=by kernel_rfl
theorem b_of {o}(h:b RZ.R RZ.D (J0 RZ)=some o):RZ.R aD2 [] []=some o:=ab7 ((b_eq RZ).trans h)
theorem ad0 {o}(h:J0b RZ.R RZ.D a=some o):J0 RZ a=some o:=aa9 (by kernel_rfl) ((ab9 RZ ..).trans h)
end
end aC5
namespace aK1
section
variable (a:B)(c:Int)(d e:Y)(f g:Int)(i:B)(j:W)(k:B)(l:W)(m:B)(n:W)(p:B)(q:W)(r:B)
def J0P:List Nat:=[0,1]
def J0F:St:=⟨mkT 20 [(4,vB a,.no)],mkA 0 [],0,[],[],[]⟩
def J0:=Z.X 21 .body J0P (J0F a)
def b:Q->D->(B->R)->Int->Y->Y->Int->Int->B->W->B->W->B->W->B->W->B->R:=fun v _ u c d e f g i j k l m n p q r=>ck (aa0 [vT c d e f g i j k l m n p q]) (cP (v av1 [vT c d e f g i j k l m n p q] []) (fun a=>aB a fun s=>bif s then bif (c !=(15:Int)) then bif r then u true else u (c !=z0) else u false else u false) fun t=>panK t [])
theorem b_eq:ac7 Z 21 [vT c d e f g i j k l m n p q,vB r] []=b Z.R Z.D (J0 Z) c d e f g i j k l m n p q r:=by kernel_rfl
def J0b:Q->D->B->R:=fun _ _ a=>retR [vB a] []
theorem ab9:ac5 Z 21 .body J0P (J0F a)=J0b Z.R Z.D a:=by kernel_rfl
theorem b_of {o}(h:b RZ.R RZ.D (J0 RZ) c d e f g i j k l m n p q r=some o):RZ.R aH2 [vT c d e f g i j k l m n p q,vB r] []=some o:=ab7 ((b_eq RZ ..).trans h)
theorem ad0 {o}(h:J0b RZ.R RZ.D a=some o):J0 RZ a=some o:=aa9 (by kernel_rfl) ((ab9 RZ ..).trans h)
end
end aK1
namespace aC7
section
variable (a:B)(c:Int)
def J0P:List Nat:=[0,1]
def J0F:St:=⟨mkT 17 [(2,vB a,.no)],mkA 0 [],0,[],[],[]⟩
def J0:=Z.X 36 .body J0P (J0F a)
def b:Q->D->(B->R)->Int->R:=fun _ _ a c=>bif (decide (c>=97)) then bif (decide (c<=122)) then a true else bif (decide (c>=65)) then a (decide (c<=90)) else a false else bif (decide (c>=65)) then a (decide (c<=90)) else a false
theorem b_eq:ac7 Z 36 [vU c] []=b Z.R Z.D (J0 Z) c:=by kernel_rfl
def J0b:Q->D->B->R:=fun _ _ a=>retR [vB a] []
theorem ab9:ac5 Z 36 .body J0P (J0F a)=J0b Z.R Z.D a:=by kernel_rfl
theorem b_of {o}(h:b RZ.R RZ.D (J0 RZ) c=some o):RZ.R aR3 [vU c] []=some o:=ab7 ((b_eq RZ ..).trans h)
theorem ad0 {o}(h:J0b RZ.R RZ.D a=some o):J0 RZ a=some o:=aa9 (by kernel_rfl) ((ab9 RZ ..).trans h)
end
end aC7
namespace az2
section
variable (a:B)(c:Int)(d e:Y)(f g:Int)(i:B)(j:W)(k:B)(l:W)(m:B)(n:W)(p:B)(q:W)
def J0P:List Nat:=[0,1]
def J0F:St:=⟨mkT 39 [(2,vB a,.no)],mkA 0 [],0,[],[],[]⟩
def J0:=Z.X 49 .body J0P (J0F a)
def b:Q->D->(B->R)->Te0:=fun _ _ a _ d e f g _ j _ l _ n _ q=>bif (d.toList==(⟨#[]⟩:ByteArray).toList) then bif (e.toList==(⟨#[]⟩:ByteArray).toList) then bif (f==z0) then bif (g==z0) then a ((w6 ((w6 ((w6 ((j.length:Int)+(l.length:Int)))+(n.length:Int)))+(q.length:Int)))==z0) else a false else a false else a false else a false
theorem b_eq:ac7 Z 49 [vT c d e f g i j k l m n p q] []=b Z.R Z.D (J0 Z) c d e f g i j k l m n p q:=by kernel_rfl
def J0b:Q->D->B->R:=fun _ _ a=>retR [vB a] []
theorem ab9:ac5 Z 49 .body J0P (J0F a)=J0b Z.R Z.D a:=by kernel_rfl
theorem b_of {o}(h:b RZ.R RZ.D (J0 RZ) c d e f g i j k l m n p q=some o):RZ.R au5 [vT c d e f g i j k l m n p q] []=some o:=ab7 ((b_eq RZ ..).trans h)
theorem ad0 {o}(h:J0b RZ.R RZ.D a=some o):J0 RZ a=some o:=aa9 (by kernel_rfl) ((ab9 RZ ..).trans h)
end
end az2
namespace bj0
section
variable (a c:Nat)(d:Int)(e f:Y)(g i:Int)(j:B)(k:W)(l:B)(m:W)(n:B)(p:W)(q:B)(r:W)(s:Lo)
def b:Q->D->Te1:=fun _ _ _ _ d e f g i j k l m n p q r s=>retR [vT d e f g i j k l m n p q r,vB true] s
theorem b_eq:ac7 Z 60 [vO a c,vT d e f g i j k l m n p q r] s=b Z.R Z.D a c d e f g i j k l m n p q r s:=by kernel_rfl
theorem b_of {o}(h:b RZ.R RZ.D a c d e f g i j k l m n p q r s=some o):RZ.R i_kind_rules_1 [vO a c,vT d e f g i j k l m n p q r] s=some o:=ab7 ((b_eq RZ ..).trans h)
end
end bj0
namespace ag1
section
variable (a:B)(k:W)(l m:Int)(c:W)(d e:Int)(f:B)(g:W)(i j:Int)(n p:B)
def L0P:List Nat:=[0,1,0,1]
def L0F:St:=⟨mkT 40 [(0,vL a 1 c,.no),(1,vI d,.no),(2,vI e,.no),(9,vL f 1 g,.no),(10,vI i,.no),(11,vI j,.no)],mkA 0 [],0,[],[],[]⟩
def L0:=Z.X 64 .body L0P (L0F a c d e f g i j)
def J1P:List Nat:=[0,1,0,0,1,1,0,0,1,0,1]
def J1F:St:=⟨mkT 40 [(0,vL a 1 c,.no),(1,vI d,.no),(2,vI e,.no),(9,vL f 1 g,.no),(10,vI i,.no),(11,vI j,.no),(25,vB n,.no)],mkA 0 [],0,[],[],[]⟩
def J1:=Z.X 64 .body J1P (J1F a c d e f g i j n)
def J2P:List Nat:=[0,1,1]
def J2F:St:=⟨mkT 40 [(6,vB p,.no)],mkA 0 [],0,[],[],[]⟩
def J2:=Z.X 64 .body J2P (J2F p)
def b:Q->D->Te2->B->W->Int->Int->R:=fun _ _ c a k l m=>c a k l m a k (k.length:Int) z0
theorem b_eq:ac7 Z 64 [vL a 1 k,vI l,vI m] []=b Z.R Z.D (L0 Z) a k l m:=by kernel_rfl
def L0b:Q->D->Te3->(B->R)->Te2:=fun x _ v w a c d e f g i j=>bif (decide (j<i)) then idxK g j fun l=>aC (V.cells l) fun m n=>aS m fun k=>aN n (cP (x at7 [vS k] []) (fun p=>aB p fun q=>bif (!q) then v a c d e f g i j true else ck (decide (0<=z0)&&(decide (z0<=j)&&decide (j<=(c.length:Int)))) (ck (aa0 [vL a 1 ((c.take j.toNat).drop z0.toNat),vS k]) (cP (x am4 [vL a 1 ((c.take j.toNat).drop z0.toNat),vS k] []) (fun r=>aB r fun s=>v a c d e f g i j s) fun t=>panK t []))) fun u=>panK u []) else bif ((c.length:Int)==d) then bif (decide (d>=e)) then w (decide (d<=24)) else w false else w false
theorem ag9:ae4 Z 64 .body L0P (L0F a c d e f g i j)=L0b Z.R Z.D (J1 Z) (J2 Z) a c d e f g i j:=by kernel_rfl
def J1b:Q->D->Te2->Te3:=fun _ _ k a c d e f g i j n=>bif n then retR [vB false] [] else k a c d e f g i (w6 (j+z1))
theorem ak2:ac5 Z 64 .body J1P (J1F a c d e f g i j n)=J1b Z.R Z.D (L0 Z) a c d e f g i j n:=by kernel_rfl
def J2b:Q->D->B->R:=fun _ _ p=>retR [vB p] []
theorem ah0:ac5 Z 64 .body J2P (J2F p)=J2b Z.R Z.D p:=by kernel_rfl
theorem b_of {o}(h:b RZ.R RZ.D (L0 RZ) a k l m=some o):RZ.R an5 [vL a 1 k,vI l,vI m] []=some o:=ab7 ((b_eq RZ ..).trans h)
theorem ag6 {o}(h:L0b RZ.R RZ.D (J1 RZ) (J2 RZ) a c d e f g i j=some o):L0 RZ a c d e f g i j=some o:=ac9 ((ag9 RZ ..).trans h)
theorem an7 {o}(h:J1b RZ.R RZ.D (L0 RZ) a c d e f g i j n=some o):J1 RZ a c d e f g i j n=some o:=aa9 (by kernel_rfl) ((ak2 RZ ..).trans h)
theorem ak5 {o}(h:J2b RZ.R RZ.D p=some o):J2 RZ p=some o:=aa9 (by kernel_rfl) ((ah0 RZ ..).trans h)
end
end ag1
namespace ab1
section
variable (a:Int)(c d:Y)(e f:Int)(g:B)(i:W)(j:B)(k:W)(l:B)(m:W)(n:B)(p:W)(q:B)(r:Int)(s t:Y)(u v:Int)(w:B)(x:W)(y:B)(z:W)(A:B)(C:W)(E:B)(F:W)(G:Int)(H K:Y)(L M:Int)(P:B)(S:W)(T:B)(X:W)(a0:B)(a1:W)(a2:B)(a3:W)(a4:B)(a5:W)(a6 a7 a8:Int)(a9 c0:Y)(c1 c2:Int)(c3:B)(c4:W)(c5:B)(c6:W)(c7:B)(c8:W)(c9:B)(d0:W)(d1:List (V×V))(d2:Nat)(d3:Int)(d4 d5:Y)(d6 d7:Int)(d8:B)(d9:W)(e0:B)(e1:W)(e2:B)(e3:W)(e4:B)(e5:W)(e6:B)(e7:W)(e8:B)(e9:W)(f0 f1:Int)(f2:B)(f3:Int)(f4 f5:Y)(f6 f7:Int)(f8:B)(f9:W)(g0:B)(g1:W)(g2:B)(g3:W)(g4:B)(g5:W)(g6:List (V×V))(g7:Nat)(g8:Int)(g9 j0:Y)(j1 j2:Int)(j3:B)(j4:W)(j5:B)(j6:W)(j7:B)(j8:W)(j9:B)(k0:W)(k1:B)(k2:W)(k3 k4:Int)(k5:B)(k6:W)(k7 k8 k9:Int)(l0 l1:Y)(l2 l3:Int)(l4:B)(l5:W)(l6:B)(l7:W)(l8:B)(l9:W)(m0:B)(m1:W)(m2:List (V×V))(m3:Nat)(m4:Int)(m5 m6:Y)(m7 m8:Int)(m9:B)(n0:W)(n1:B)(n2:W)(n3:B)(n4:W)(n5:B)(n6:W)(n7:Int)(n8:B)(n9:W)(p0 p1:Int)(p2:B)(p3:W)(p4 p5:Int)(p6:B)(p7:Int)(p8 p9:Y)(q0 q1:Int)(q2:B)(q3:W)(q4:B)(q5:W)(q6:B)(q7:W)(q8:B)(q9:W)(r0:List (V×V))(r1:Nat)(r2:Int)(r3 r4:Y)(r5 r6:Int)(r7:B)(r8:W)(r9:B)(s0:W)(s1:B)(s2:W)(s3:B)(s4:W)(s5:B)(s6:List (V×V))(s7:Nat)(s8:B)(s9:List (V×V))(t0:Nat)(t1:Int)(t2 t3:Y)(t4 t5:Int)(t6:B)(t7:W)(t8:B)(t9:W)(u0:B)(u1:W)(u2:B)(u3:W)
def J0P:List Nat:=[0,0,1,1]
def J0F:St:=⟨mkT 110 [(1,vQ a c d e f g i j k l m n p,.no),(3,V.loc 0 0,.no),(39,vB q,.no)],mkA 1 [(0,[(vI r,.no),(vS s,.no),(vS t,.no),(vI u,.no),(vI v,.no),(vL w 1 x,.no),(vL y 9 z,.no),(vL A 1 C,.no),(vL E 3 F,.no)])],0,[],[],[]⟩
def J0:=Z.X 69 .body J0P (J0F a c d e f g i j k l m n p q r s t u v w x y z A C E F)
def L1P:List Nat:=[0,1,0,1,1,1,1]
def L1F:St:=⟨mkT 110 [(1,vQ G H K L M P S T X a0 a1 a2 a3,.no),(3,V.loc 0 0,.no),(4,V.map 0,.no),(42,vL a4 1 a5,.no),(43,vI a6,.no),(44,vI a7,.no)],mkA 1 [(0,[(vI a8,.no),(vS a9,.no),(vS c0,.no),(vI c1,.no),(vI c2,.no),(vL c3 1 c4,.no),(vL c5 9 c6,.no),(vL c7 1 c8,.no),(vL c9 3 d0,.no)])],0,[],[O.map d1 d2],[]⟩
def L1:=Z.X 69 .body L1P (L1F G H K L M P S T X a0 a1 a2 a3 a4 a5 a6 a7 a8 a9 c0 c1 c2 c3 c4 c5 c6 c7 c8 c9 d0 d1 d2)
def J2P:List Nat:=[0,0,1,0,0,1,1,0,0,1,0,1,1,1,1]
def J2F:St:=⟨mkT 110 [(1,vQ d3 d4 d5 d6 d7 d8 d9 e0 e1 e2 e3 e4 e5,.no),(3,V.loc 0 0,.no),(4,V.map 0,.no),(6,vL e6 1 e7,.no),(42,vL e8 1 e9,.no),(43,vI f0,.no),(44,vI f1,.no),(57,vB f2,.no)],mkA 1 [(0,[(vI f3,.no),(vS f4,.no),(vS f5,.no),(vI f6,.no),(vI f7,.no),(vL f8 1 f9,.no),(vL g0 9 g1,.no),(vL g2 1 g3,.no),(vL g4 3 g5,.no)])],0,[],[O.map g6 g7],[]⟩
def J2:=Z.X 69 .body J2P (J2F d3 d4 d5 d6 d7 d8 d9 e0 e1 e2 e3 e4 e5 e6 e7 e8 e9 f0 f1 f2 f3 f4 f5 f6 f7 f8 f9 g0 g1 g2 g3 g4 g5 g6 g7)
def L3P:List Nat:=[0,1,1,1,0,0,1,1,0,0,1,0,1,1,1,1]
def L3F:St:=⟨mkT 110 [(1,vQ g8 g9 j0 j1 j2 j3 j4 j5 j6 j7 j8 j9 k0,.no),(3,V.loc 0 0,.no),(4,V.map 0,.no),(42,vL k1 1 k2,.no),(43,vI k3,.no),(44,vI k4,.no),(58,vL k5 1 k6,.no),(59,vI k7,.no),(60,vI k8,.no)],mkA 1 [(0,[(vI k9,.no),(vS l0,.no),(vS l1,.no),(vI l2,.no),(vI l3,.no),(vL l4 1 l5,.no),(vL l6 9 l7,.no),(vL l8 1 l9,.no),(vL m0 3 m1,.no)])],0,[],[O.map m2 m3],[]⟩
def L3:=Z.X 69 .body L3P (L3F g8 g9 j0 j1 j2 j3 j4 j5 j6 j7 j8 j9 k0 k1 k2 k3 k4 k5 k6 k7 k8 k9 l0 l1 l2 l3 l4 l5 l6 l7 l8 l9 m0 m1 m2 m3)
def J4P:List Nat:=[0,0,1,0,0,1,1,0,0,1,1,1,0,0,1,1,0,0,1,0,1,1,1,1]
def J4F:St:=⟨mkT 110 [(1,vQ m4 m5 m6 m7 m8 m9 n0 n1 n2 n3 n4 n5 n6,.no),(3,V.loc 0 0,.no),(4,V.map 0,.no),(8,vI n7,.no),(42,vL n8 1 n9,.no),(43,vI p0,.no),(44,vI p1,.no),(58,vL p2 1 p3,.no),(59,vI p4,.no),(60,vI p5,.no),(72,vB p6,.no)],mkA 1 [(0,[(vI p7,.no),(vS p8,.no),(vS p9,.no),(vI q0,.no),(vI q1,.no),(vL q2 1 q3,.no),(vL q4 9 q5,.no),(vL q6 1 q7,.no),(vL q8 3 q9,.no)])],0,[],[O.map r0 r1],[]⟩
def J4:=Z.X 69 .body J4P (J4F m4 m5 m6 m7 m8 m9 n0 n1 n2 n3 n4 n5 n6 n7 n8 n9 p0 p1 p2 p3 p4 p5 p6 p7 p8 p9 q0 q1 q2 q3 q4 q5 q6 q7 q8 q9 r0 r1)
def J5P:List Nat:=[0,1,1,1,1,1]
def J5F:St:=⟨mkT 110 [(1,vQ r2 r3 r4 r5 r6 r7 r8 r9 s0 s1 s2 s3 s4,.no),(4,V.map 0,.no),(9,vB s5,.no)],mkA 1 [],0,[],[O.map s6 s7],[]⟩
def J5:=Z.X 69 .body J5P (J5F r2 r3 r4 r5 r6 r7 r8 r9 s0 s1 s2 s3 s4 s5 s6 s7)
def J6P:List Nat:=[0,1,1,1,1,1,1]
def J6F:St:=⟨mkT 110 [(2,vB s8,.no)],mkA 1 [],0,[],[O.map s9 t0],[]⟩
def J6:=Z.X 69 .body J6P (J6F s8 s9 t0)
def b:Q->D->Te4->Te0:=fun a0 _ X t1 t2 t3 t4 t5 t6 t7 t8 t9 u0 u1 u2 u3=>idxK t9 z0 fun q=>aTy (V.cells q) fun a c d e f g i j k l m n p=>(cP (a0 aZ0 [vI a] []) (fun P=>aB P fun S=>bif (!S) then X t1 t2 t3 t4 t5 t6 t7 t8 t9 u0 u1 u2 u3 true a c d e f g i j k l m n p else bif ((u1.length:Int) !=(t7.length:Int)) then X t1 t2 t3 t4 t5 t6 t7 t8 t9 u0 u1 u2 u3 true a c d e f g i j k l m n p else bif (decide (t4<(-1))) then X t1 t2 t3 t4 t5 t6 t7 t8 t9 u0 u1 u2 u3 true a c d e f g i j k l m n p else X t1 t2 t3 t4 t5 t6 t7 t8 t9 u0 u1 u2 u3 (decide (t4>=(t7.length:Int))) a c d e f g i j k l m n p) fun T=>panK T [])
theorem b_eq:ac7 Z 69 [vT t1 t2 t3 t4 t5 t6 t7 t8 t9 u0 u1 u2 u3] []=b Z.R Z.D (J0 Z) t1 t2 t3 t4 t5 t6 t7 t8 t9 u0 u1 u2 u3:=by kernel_rfl
def J0b:Q->D->Te5->Te4:=fun _ _ G a c d e f g i j k l m n p q r s t u v w x y z A C E F=>bif q then retR [vB false] [] else G a c d e f g i j k l m n p l m (m.length:Int) z0 r s t u v w x y z A C E F [] 0
theorem ab9:ac5 Z 69 .body J0P (J0F a c d e f g i j k l m n p q r s t u v w x y z A C E F)=J0b Z.R Z.D (L1 Z) a c d e f g i j k l m n p q r s t u v w x y z A C E F:=by kernel_rfl
def L1b:Q->D->Te6->Te7->Te5:=fun _ _ g i G H K L M P S T X a0 a1 a2 a3 a4 a5 a6 a7 a8 a9 c0 c1 c2 c3 c4 c5 c6 c7 c8 c9 d0 d1 d2=>bif (decide (a7<a6)) then idxK a5 a7 fun d=>aC (V.cells d) fun e f=>aL 1 e fun c a=>aN f (bif ((a.length:Int)==z0) then g G H K L M P S T X a0 a1 a2 a3 c a a4 a5 a6 a7 (a7 !=L) a8 a9 c0 c1 c2 c3 c4 c5 c6 c7 c8 c9 d0 d1 d2 else g G H K L M P S T X a0 a1 a2 a3 c a a4 a5 a6 a7 false a8 a9 c0 c1 c2 c3 c4 c5 c6 c7 c8 c9 d0 d1 d2) else bif (a8==z1) then bif ((d1.length:Int)==(2:Int)) then i G H K L M P S T X a0 a1 a2 a3 true d1 d2 else bif (a8==(9:Int)) then i G H K L M P S T X a0 a1 a2 a3 ((d1.length:Int)==(c4.length:Int)) d1 d2 else i G H K L M P S T X a0 a1 a2 a3 false d1 d2 else bif (a8==(9:Int)) then i G H K L M P S T X a0 a1 a2 a3 ((d1.length:Int)==(c4.length:Int)) d1 d2 else i G H K L M P S T X a0 a1 a2 a3 false d1 d2
theorem ak9:ae4 Z 69 .body L1P (L1F G H K L M P S T X a0 a1 a2 a3 a4 a5 a6 a7 a8 a9 c0 c1 c2 c3 c4 c5 c6 c7 c8 c9 d0 d1 d2)=L1b Z.R Z.D (J2 Z) (J5 Z) G H K L M P S T X a0 a1 a2 a3 a4 a5 a6 a7 a8 a9 c0 c1 c2 c3 c4 c5 c6 c7 c8 c9 d0 d1 d2:=by kernel_rfl
def J2b:Q->D->Te8->Te6:=fun _ _ a d3 d4 d5 d6 d7 d8 d9 e0 e1 e2 e3 e4 e5 e6 e7 e8 e9 f0 f1 f2 f3 f4 f5 f6 f7 f8 f9 g0 g1 g2 g3 g4 g5 g6 g7=>bif f2 then retR [vB false] [O.map g6 g7] else a d3 d4 d5 d6 d7 d8 d9 e0 e1 e2 e3 e4 e5 e8 e9 f0 f1 e6 e7 (e7.length:Int) z0 f3 f4 f5 f6 f7 f8 f9 g0 g1 g2 g3 g4 g5 g6 g7
theorem ah0:ac5 Z 69 .body J2P (J2F d3 d4 d5 d6 d7 d8 d9 e0 e1 e2 e3 e4 e5 e6 e7 e8 e9 f0 f1 f2 f3 f4 f5 f6 f7 f8 f9 g0 g1 g2 g3 g4 g5 g6 g7)=J2b Z.R Z.D (L3 Z) d3 d4 d5 d6 d7 d8 d9 e0 e1 e2 e3 e4 e5 e6 e7 e8 e9 f0 f1 f2 f3 f4 f5 f6 f7 f8 f9 g0 g1 g2 g3 g4 g5 g6 g7:=by kernel_rfl
def L3b:Q->D->Te5->Te9->Te8:=fun n _ l m g8 g9 j0 j1 j2 j3 j4 j5 j6 j7 j8 j9 k0 k1 k2 k3 k4 k5 k6 k7 k8 k9 l0 l1 l2 l3 l4 l5 l6 l7 l8 l9 m0 m1 m2 m3=>bif (decide (k8<k7)) then idxK k6 k8 fun c=>aC (V.cells c) fun d e=>aI d fun a=>aN e (bv3 (vI a) m2 fun f=>aB (f.getD (vB false)) fun g=>bif g then m g8 g9 j0 j1 j2 j3 j4 j5 j6 j7 j8 j9 k0 a k1 k2 k3 k4 k5 k6 k7 k8 true k9 l0 l1 l2 l3 l4 l5 l6 l7 l8 l9 m0 m1 m2 m3 else ck (aa0 [vT k9 l0 l1 l2 l3 l4 l5 l6 l7 l8 l9 m0 m1,vI a]) (cP (n aZ1 [vT k9 l0 l1 l2 l3 l4 l5 l6 l7 l8 l9 m0 m1,vI a] []) (fun i=>aB i fun j=>m g8 g9 j0 j1 j2 j3 j4 j5 j6 j7 j8 j9 k0 a k1 k2 k3 k4 k5 k6 k7 k8 (!j) k9 l0 l1 l2 l3 l4 l5 l6 l7 l8 l9 m0 m1 m2 m3) fun k=>panK k [O.map m2 m3])) else l g8 g9 j0 j1 j2 j3 j4 j5 j6 j7 j8 j9 k0 k1 k2 k3 (w6 (k4+z1)) k9 l0 l1 l2 l3 l4 l5 l6 l7 l8 l9 m0 m1 m2 m3
theorem aV1:ae4 Z 69 .body L3P (L3F g8 g9 j0 j1 j2 j3 j4 j5 j6 j7 j8 j9 k0 k1 k2 k3 k4 k5 k6 k7 k8 k9 l0 l1 l2 l3 l4 l5 l6 l7 l8 l9 m0 m1 m2 m3)=L3b Z.R Z.D (L1 Z) (J4 Z) g8 g9 j0 j1 j2 j3 j4 j5 j6 j7 j8 j9 k0 k1 k2 k3 k4 k5 k6 k7 k8 k9 l0 l1 l2 l3 l4 l5 l6 l7 l8 l9 m0 m1 m2 m3:=by kernel_rfl
def J4b:Q->D->Te8->Te9:=fun _ _ c m4 m5 m6 m7 m8 m9 n0 n1 n2 n3 n4 n5 n6 n7 n8 n9 p0 p1 p2 p3 p4 p5 p6 p7 p8 p9 q0 q1 q2 q3 q4 q5 q6 q7 q8 q9 r0 r1=>bif p6 then retR [vB false] [O.map r0 r1] else putK (vI n7) (vB true) r0 fun a=>c m4 m5 m6 m7 m8 m9 n0 n1 n2 n3 n4 n5 n6 n8 n9 p0 p1 p2 p3 p4 (w6 (p5+z1)) p7 p8 p9 q0 q1 q2 q3 q4 q5 q6 q7 q8 q9 a (if a.length=r0.length then r1 else r1+1)
theorem aF4:ac5 Z 69 .body J4P (J4F m4 m5 m6 m7 m8 m9 n0 n1 n2 n3 n4 n5 n6 n7 n8 n9 p0 p1 p2 p3 p4 p5 p6 p7 p8 p9 q0 q1 q2 q3 q4 q5 q6 q7 q8 q9 r0 r1)=J4b Z.R Z.D (L3 Z) m4 m5 m6 m7 m8 m9 n0 n1 n2 n3 n4 n5 n6 n7 n8 n9 p0 p1 p2 p3 p4 p5 p6 p7 p8 p9 q0 q1 q2 q3 q4 q5 q6 q7 q8 q9 r0 r1:=by kernel_rfl
def J5b:Q->D->Te10->Te7:=fun _ _ a _ _ _ r5 _ _ _ _ _ _ _ _ _ s5 s6 s7=>bif (decide ((s6.length:Int)<=256)) then bif s5 then a (!(decide (r5>=0))) s6 s7 else a true s6 s7 else a false s6 s7
theorem aA0:ac5 Z 69 .body J5P (J5F r2 r3 r4 r5 r6 r7 r8 r9 s0 s1 s2 s3 s4 s5 s6 s7)=J5b Z.R Z.D (J6 Z) r2 r3 r4 r5 r6 r7 r8 r9 s0 s1 s2 s3 s4 s5 s6 s7:=by kernel_rfl
def J6b:Q->D->Te10:=fun _ _ s8 s9 t0=>retR [vB s8] [O.map s9 t0]
theorem aN8:ac5 Z 69 .body J6P (J6F s8 s9 t0)=J6b Z.R Z.D s8 s9 t0:=by kernel_rfl
theorem b_of {o}(h:b RZ.R RZ.D (J0 RZ) t1 t2 t3 t4 t5 t6 t7 t8 t9 u0 u1 u2 u3=some o):RZ.R aR4 [vT t1 t2 t3 t4 t5 t6 t7 t8 t9 u0 u1 u2 u3] []=some o:=ab7 ((b_eq RZ ..).trans h)
theorem ad0 {o}(h:J0b RZ.R RZ.D (L1 RZ) a c d e f g i j k l m n p q r s t u v w x y z A C E F=some o):J0 RZ a c d e f g i j k l m n p q r s t u v w x y z A C E F=some o:=aa9 (by kernel_rfl) ((ab9 RZ ..).trans h)
theorem ak4 {o}(h:L1b RZ.R RZ.D (J2 RZ) (J5 RZ) G H K L M P S T X a0 a1 a2 a3 a4 a5 a6 a7 a8 a9 c0 c1 c2 c3 c4 c5 c6 c7 c8 c9 d0 d1 d2=some o):L1 RZ G H K L M P S T X a0 a1 a2 a3 a4 a5 a6 a7 a8 a9 c0 c1 c2 c3 c4 c5 c6 c7 c8 c9 d0 d1 d2=some o:=ac9 ((ak9 RZ ..).trans h)
theorem ak5 {o}(h:J2b RZ.R RZ.D (L3 RZ) d3 d4 d5 d6 d7 d8 d9 e0 e1 e2 e3 e4 e5 e6 e7 e8 e9 f0 f1 f2 f3 f4 f5 f6 f7 f8 f9 g0 g1 g2 g3 g4 g5 g6 g7=some o):J2 RZ d3 d4 d5 d6 d7 d8 d9 e0 e1 e2 e3 e4 e5 e6 e7 e8 e9 f0 f1 f2 f3 f4 f5 f6 f7 f8 f9 g0 g1 g2 g3 g4 g5 g6 g7=some o:=aa9 (by kernel_rfl) ((ah0 RZ ..).trans h)
theorem aT4 {o}(h:L3b RZ.R RZ.D (L1 RZ) (J4 RZ) g8 g9 j0 j1 j2 j3 j4 j5 j6 j7 j8 j9 k0 k1 k2 k3 k4 k5 k6 k7 k8 k9 l0 l1 l2 l3 l4 l5 l6 l7 l8 l9 m0 m1 m2 m3=some o):L3 RZ g8 g9 j0 j1 j2 j3 j4 j5 j6 j7 j8 j9 k0 k1 k2 k3 k4 k5 k6 k7 k8 k9 l0 l1 l2 l3 l4 l5 l6 l7 l8 l9 m0 m1 m2 m3=some o:=ac9 ((aV1 RZ ..).trans h)
theorem aS3 {o}(h:J4b RZ.R RZ.D (L3 RZ) m4 m5 m6 m7 m8 m9 n0 n1 n2 n3 n4 n5 n6 n7 n8 n9 p0 p1 p2 p3 p4 p5 p6 p7 p8 p9 q0 q1 q2 q3 q4 q5 q6 q7 q8 q9 r0 r1=some o):J4 RZ m4 m5 m6 m7 m8 m9 n0 n1 n2 n3 n4 n5 n6 n7 n8 n9 p0 p1 p2 p3 p4 p5 p6 p7 p8 p9 q0 q1 q2 q3 q4 q5 q6 q7 q8 q9 r0 r1=some o:=aa9 (by kernel_rfl) ((aF4 RZ ..).trans h)
theorem aM6 {o}(h:J5b RZ.R RZ.D (J6 RZ) r2 r3 r4 r5 r6 r7 r8 r9 s0 s1 s2 s3 s4 s5 s6 s7=some o):J5 RZ r2 r3 r4 r5 r6 r7 r8 r9 s0 s1 s2 s3 s4 s5 s6 s7=some o:=aa9 (by kernel_rfl) ((aA0 RZ ..).trans h)
theorem aV8 {o}(h:J6b RZ.R RZ.D s8 s9 t0=some o):J6 RZ s8 s9 t0=some o:=aa9 (by kernel_rfl) ((aN8 RZ ..).trans h)
end
end ab1
namespace ay6
section
variable (a:B)(c:Int)(d e:Y)(f g:Int)(i:B)(j:W)(k:B)(l:W)(m:B)(n:W)(p:B)(q r s t u:W)(v:Lo)(w x:Nat)(y:Int)(z A:Y)(C E:Int)(F:B)(G:W)(H:B)(K:W)(L:B)(M:W)(P:B)(S:W)(T:Lo)
def J0P:List Nat:=[0,1]
def J0F:St:=⟨mkT 25 [(3,V.loc 0 0,.no),(4,V.loc 1 0,.no),(6,vB a,.no)],mkA 2 [(0,[(vI c,.no),(vS d,.no),(vS e,.no),(vI f,.no),(vI g,.no),(vL i 1 j,.no),(vL k 9 l,.no),(vL m 1 n,.no),(vL p 3 q,.no)]),(1,[(vI 0,.no),(vS (⟨#[]⟩:ByteArray),.no),(vS (⟨#[]⟩:ByteArray),.no),(vI 0,.no),(vI 0,.no),(vL false 1 r,.full),(vL false 9 s,.full),(vL false 1 t,.full),(vL false 3 u,.full)])],0,[],v,[]⟩
def J0:=Z.X 71 .body J0P (J0F a c d e f g i j k l m n p q r s t u v)
def b:Q->D->Te11->Te1:=fun _ _ a _ _ y z A C E F G H K L M P S T=>bif (decide (C>=1)) then bif (decide (C<=1000)) then a ((K.length:Int)==z1) y z A C E F G H K L M P S [] [] [] [] T else a false y z A C E F G H K L M P S [] [] [] [] T else a false y z A C E F G H K L M P S [] [] [] [] T
theorem b_eq:ac7 Z 71 [vO w x,vT y z A C E F G H K L M P S] T=b Z.R Z.D (J0 Z) w x y z A C E F G H K L M P S T:=by kernel_rfl
def J0b:Q->D->Te11:=fun _ _ a c d e _ g i j _ _ m n p q _ _ _ _ v=>retR [vT c d e 0 g i j false [] m n p q,vB a] v
theorem ab9:ac5 Z 71 .body J0P (J0F a c d e f g i j k l m n p q r s t u v)=J0b Z.R Z.D a c d e f g i j k l m n p q r s t u v:=by kernel_rfl
theorem b_of {o}(h:b RZ.R RZ.D (J0 RZ) w x y z A C E F G H K L M P S T=some o):RZ.R i_kind_rules_8 [vO w x,vT y z A C E F G H K L M P S] T=some o:=ab7 ((b_eq RZ ..).trans h)
theorem ad0 {o}(h:J0b RZ.R RZ.D a c d e f g i j k l m n p q r s t u v=some o):J0 RZ a c d e f g i j k l m n p q r s t u v=some o:=aa9 (by kernel_rfl) ((ab9 RZ ..).trans h)
end
end ay6
end
end Go.Proofs.YtflhfchgdpbhcaaGreat.E
