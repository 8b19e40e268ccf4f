/- It is proved of functions that StubTypes reaches what their evaluation is, in plain words. No condition. -/
import Derived.Test.YtflhfchgdpbhcaaGreatLH
set_option maxRecDepth 100000
set_option maxHeartbeats 40000
namespace Go.Proofs.YtflhfchgdpbhcaaGreat.E
open Go
noncomputable section
abbrev Tk0:=Y->Int->Int->R
abbrev Tk1:=Y->Int->Int->B->R
abbrev Tk2:=B->Y->B->Int->Y->Y->Int->Int->B->W->B->W->B->W->B->W->B->W->B->W->B->W->W->R
abbrev Tk3:=B->Y->B->Int->Y->Y->Int->Int->B->W->B->W->B->W->B->W->B->W->B->W->Lo->R
abbrev Tk4:=B->B->W->Int->Int->Lo->R
abbrev Tk5:=B->B->W->Int->Int->B->Y->Int->Int->Y->Y->Int->Int->B->W->B->W->B->W->B->W->Lo->R
abbrev Tk6:=V->V->Int->Int->Lo->R
abbrev Tk7:=Int->Y->Y->Int->Int->B->W->B->W->B->W->B->W->R
abbrev Tk8:=Int->Y->Y->Int->Int->B->W->B->W->B->W->B->W->B->R
abbrev Tk9:=Int->Y->Y->Int->Int->B->W->B->W->B->W->B->W->B->W->B->W->Int->Int->R
abbrev Tk10:=Int->Y->Y->Int->Int->B->W->B->W->B->W->B->W->B->W->B->W->Int->Int->B->Y->Int->B->R
variable (Z:Env)
namespace law04_Light
end law04_Light
namespace ap4
section
variable (a:Y)(c d:Int)(e f:B)(g:Y)
def L0P:List Nat:=[0,1,0,1]
def L0F:St:=⟨mkT 40 [(0,vS a,.no),(5,vI c,.no),(6,vI d,.no)],mkA 0 [],0,[],[],[]⟩
def L0:=Z.X 20 .body L0P (L0F a c d)
def J1P:List Nat:=[0,1,0,0,1,1,0,0,1,0,1]
def J1F:St:=⟨mkT 40 [(0,vS a,.no),(5,vI c,.no),(6,vI d,.no),(30,vB e,.no)],mkA 0 [],0,[],[],[]⟩
def J1:=Z.X 20 .body J1P (J1F a c d e)
def J2P:List Nat:=[0,1,1]
def J2F:St:=⟨mkT 40 [(2,vB f,.no)],mkA 0 [],0,[],[],[]⟩
def J2:=Z.X 20 .body J2P (J2F f)
def b:Q->D->Tk0->Y->R:=fun _ _ a g=>a g (g.size:Int) z0
theorem b_eq:ac7 Z 20 [vS g] []=b Z.R Z.D (L0 Z) g:=by kernel_rfl
def L0b:Q->D->Tk1->(B->R)->Tk0:=fun r _ p q a c d=>bif (decide (d<c)) then aT3 a d fun e=>cP (r aR3 [vU e] []) (fun f=>aB f fun g=>bif (!g) then bif (d==z0) then p a c d true else aT3 a d fun i=>bif (i==(95:Int)) then p a c d false else aT3 a d fun j=>cP (r aU9 [vU j] []) (fun k=>aB k fun l=>p a c d (!l)) (fun m=>panK m []) else p a c d false) (fun n=>panK n []) else bif (decide ((a.size:Int)>=1)) then q (decide ((a.size:Int)<=32)) else q false
theorem ag9:ae4 Z 20 .body L0P (L0F a c d)=L0b Z.R Z.D (J1 Z) (J2 Z) a c d:=by kernel_rfl
def J1b:Q->D->Tk0->Tk1:=fun _ _ f a c d e=>bif e then retR [vB false] [] else f a c (w6 (d+z1))
theorem ak2:ac5 Z 20 .body J1P (J1F a c d e)=J1b Z.R Z.D (L0 Z) a c d e:=by kernel_rfl
def J2b:Q->D->B->R:=fun _ _ f=>retR [vB f] []
theorem ah0:ac5 Z 20 .body J2P (J2F f)=J2b Z.R Z.D f:=by kernel_rfl
theorem b_of {o}(h:b RZ.R RZ.D (L0 RZ) g=some o):RZ.R at7 [vS g] []=some o:=ab7 ((b_eq RZ ..).trans h)
theorem ag6 {o}(h:L0b RZ.R RZ.D (J1 RZ) (J2 RZ) a c d=some o):L0 RZ a c d=some o:=ac9 ((ag9 RZ ..).trans h)
theorem an7 {o}(h:J1b RZ.R RZ.D (L0 RZ) a c d e=some o):J1 RZ a c d e=some o:=aa9 (by kernel_rfl) ((ak2 RZ ..).trans h)
theorem ak5 {o}(h:J2b RZ.R RZ.D f=some o):J2 RZ f=some o:=aa9 (by kernel_rfl) ((ah0 RZ ..).trans h)
end
end ap4
namespace ah9
section
variable (a:B)(c:W)(d:V)(e:Lo)
def b:Q->D->B->W->V->Lo->R:=fun j _ a c d e=>ck ([vL a 9 c,d].all am0) (cS (j aj5 [vL a 9 c,d] e) (fun f g=>aI f fun i=>retR [vB (decide (i>=0))] g) panK)
theorem b_eq:ac7 Z 25 [vL a 9 c,d] e=b Z.R Z.D a c d e:=by kernel_rfl
theorem b_of {o}(h:b RZ.R RZ.D a c d e=some o):RZ.R ah4 [vL a 9 c,d] e=some o:=ab7 ((b_eq RZ ..).trans h)
end
end ah9
namespace an4
section
variable (a:Y)(c d:Int)(e:B)(f:Y)
def J0P:List Nat:=[0,0,1]
def J0F:St:=⟨mkT 28 [(0,vS a,.no),(16,vB e,.no)],mkA 0 [],0,[],[],[]⟩
def J0:=Z.X 27 .body J0P (J0F a e)
def L1P:List Nat:=[0,1,0,1,1]
def L1F:St:=⟨mkT 28 [(0,vS a,.no),(18,vI c,.no),(19,vI d,.no)],mkA 0 [],0,[],[],[]⟩
def L1:=Z.X 27 .body L1P (L1F a c d)
def b:Q->D->(Y->B->R)->Y->R:=fun i _ g f=>bif (f.toList==(⟨#[]⟩:ByteArray).toList) then g f true else bif (decide ((f.size:Int)>32)) then g f true else aT3 f z0 fun a=>cP (i aA4 [vU a] []) (fun c=>aB c fun d=>g f (!d)) fun e=>panK e []
theorem b_eq:ac7 Z 27 [vS f] []=b Z.R Z.D (J0 Z) f:=by kernel_rfl
def J0b:Q->D->Tk0->Y->B->R:=fun _ _ c a e=>bif e then retR [vB false] [] else c a (a.size:Int) z0
theorem ab9:ac5 Z 27 .body J0P (J0F a e)=J0b Z.R Z.D (L1 Z) a e:=by kernel_rfl
def L1b:Q->D->Tk0->Tk0:=fun k _ j a c d=>bif (decide (d<c)) then aT3 a d fun e=>cP (k aQ8 [vU e] []) (fun f=>aB f fun g=>bif (!g) then retR [vB false] [] else j a c (w6 (d+z1))) (fun i=>panK i []) else retR [vB true] []
theorem ak9:ae4 Z 27 .body L1P (L1F a c d)=L1b Z.R Z.D (L1 Z) a c d:=by kernel_rfl
theorem b_of {o}(h:b RZ.R RZ.D (J0 RZ) f=some o):RZ.R av0 [vS f] []=some o:=ab7 ((b_eq RZ ..).trans h)
theorem ad0 {o}(h:J0b RZ.R RZ.D (L1 RZ) a e=some o):J0 RZ a e=some o:=aa9 (by kernel_rfl) ((ab9 RZ ..).trans h)
theorem ak4 {o}(h:L1b RZ.R RZ.D (L1 RZ) a c d=some o):L1 RZ a c d=some o:=ac9 ((ak9 RZ ..).trans h)
end
end an4
namespace aC1
section
variable (a:B)(c:Int)
def J0P:List Nat:=[0,1]
def J0F:St:=⟨mkT 13 [(2,vB a,.no)],mkA 0 [],0,[],[],[]⟩
def J0:=Z.X 42 .body J0P (J0F a)
def b:Q->D->(B->R)->Int->R:=fun k _ j c=>cP (k aA4 [vU c] []) (fun a=>aB a fun d=>bif d then j true else cP (k aQ9 [vU c] []) (fun e=>aB e fun f=>bif f then j true else j (c==(95:Int))) fun g=>panK g []) fun i=>panK i []
theorem b_eq:ac7 Z 42 [vU c] []=b Z.R Z.D (J0 Z) c:=by kernel_rfl
def J0b:Q->D->B->R:=fun _ _ a=>retR [vB a] []
theorem ab9:ac5 Z 42 .body J0P (J0F a)=J0b Z.R Z.D a:=by kernel_rfl
theorem b_of {o}(h:b RZ.R RZ.D (J0 RZ) c=some o):RZ.R aQ8 [vU c] []=some o:=ab7 ((b_eq RZ ..).trans h)
theorem ad0 {o}(h:J0b RZ.R RZ.D a=some o):J0 RZ a=some o:=aa9 (by kernel_rfl) ((ab9 RZ ..).trans h)
end
end aC1
namespace ad2
section
variable (a:B)(c:Y)(d:B)(e:Int)(f g:Y)(i j:Int)(k:B)(l:W)(m:B)(n:W)(p:B)(q:W)(r:B)(s:W)(t:B)(u:W)(v:B)(w:W)(x:B)(y z:W)(A:B)(C:Y)(E:B)(F:Int)(G H:Y)(K L:Int)(M:B)(P:W)(S:B)(T:W)(X:B)(a0:W)(a1:B)(a2:W)(a3:B)(a4:W)(a5:B)(a6:W)(a7:Lo)(a8 a9:B)(c0:W)(c1 c2:Int)(c3:Lo)(c4 c5:B)(c6:W)(c7 c8:Int)(c9:B)(d0:Y)(d1 d2:Int)(d3 d4:Y)(d5 d6:Int)(d7:B)(d8:W)(d9:B)(e0:W)(e1:B)(e2:W)(e3:B)(e4:W)(e5:Lo)(e6 e7:B)(e8:W)(e9 f0:Int)(f1:Lo)(f2:Y)(f3:B)(f4:Int)(f5 f6:Y)(f7 f8:Int)(f9:B)(g0:W)(g1:B)(g2:W)(g3:B)(g4:W)(g5:B)(g6:W)(g7:B)(g8:W)(g9:B)(j0:W)(j1:B)
def J0P:List Nat:=[0,0,1,1]
def J0F:St:=⟨mkT 47 [(1,vB a,.no),(2,vR [vS c,vB d,vI e,vS f,vS g,vI i,vI j,vL k 1 l,vL m 9 n,vL p 1 q,vL r 3 s,vL t 11 u,vL v 9 w],.no),(4,vO 0 0,.no),(5,vO 1 0,.no),(6,V.func (.func 58) [] [vO 0 0,vO 1 0],.no),(16,vB x,.no)],mkA 1 [],0,[],[O.box [(vL false 1 y,true)],O.box [(vL false 9 z,true)]],[]⟩
def J0:=Z.X 47 .body J0P (J0F a c d e f g i j k l m n p q r s t u v w x y z)
def J1P:List Nat:=[1,0,1,1]
def J1F:St:=⟨mkT 47 [(1,vB A,.no),(2,vR [vS C,vB E,vI F,vS G,vS H,vI K,vI L,vL M 1 P,vL S 9 T,vL X 1 a0,vL a1 3 a2,vL a3 11 a4,vL a5 9 a6],.no),(4,vO 0 0,.no),(5,vO 1 0,.no),(6,V.func (.func 58) [] [vO 0 0,vO 1 0],.no)],mkA 1 [],0,[],a7,[]⟩
def J1:=Z.X 47 .body J1P (J1F A C E F G H K L M P S T X a0 a1 a2 a3 a4 a5 a6 a7)
def L2P:List Nat:=[0,1,0,1,1,1]
def L2F:St:=⟨mkT 47 [(1,vB a8,.no),(4,vO 0 0,.no),(5,vO 1 0,.no),(6,V.func (.func 58) [] [vO 0 0,vO 1 0],.no),(22,vL a9 11 c0,.no),(23,vI c1,.no),(24,vI c2,.no)],mkA 1 [],0,[],c3,[]⟩
def L2:=Z.X 47 .body L2P (L2F a8 a9 c0 c1 c2 c3)
def J3P:List Nat:=[0,1,0,0,1,1,0,0,1,0,1,1,1]
def J3F:St:=⟨mkT 47 [(1,vB c4,.no),(4,vO 0 0,.no),(5,vO 1 0,.no),(6,V.func (.func 58) [] [vO 0 0,vO 1 0],.no),(8,V.loc 0 0,.no),(22,vL c5 11 c6,.no),(23,vI c7,.no),(24,vI c8,.no),(37,vB c9,.no)],mkA 1 [(0,[(vS d0,.no),(vI d1,.no),(vI d2,.no),(vS d3,.no),(vS d4,.no),(vI d5,.no),(vI d6,.no),(vL d7 1 d8,.no),(vL d9 9 e0,.no),(vL e1 1 e2,.no),(vL e3 3 e4,.no)])],0,[],e5,[]⟩
def J3:=Z.X 47 .body J3P (J3F c4 c5 c6 c7 c8 c9 d0 d1 d2 d3 d4 d5 d6 d7 d8 d9 e0 e1 e2 e3 e4 e5)
def J4P:List Nat:=[1,1,0,0,1,1,0,0,1,0,1,1,1]
def J4F:St:=⟨mkT 47 [(1,vB e6,.no),(4,vO 0 0,.no),(5,vO 1 0,.no),(6,V.func (.func 58) [] [vO 0 0,vO 1 0],.no),(22,vL e7 11 e8,.no),(23,vI e9,.no),(24,vI f0,.no)],mkA 1 [],0,[],f1,[]⟩
def J4:=Z.X 47 .body J4P (J4F e6 e7 e8 e9 f0 f1)
def b:Q->D->Tk2->Y->B->Int->Y->Y->Int->Int->B->W->B->W->B->W->B->W->B->W->B->W->B->R:=fun _ _ a f2 f3 f4 f5 f6 f7 f8 f9 g0 g1 g2 g3 g4 g5 g6 g7 g8 g9 j0 j1=>bif j1 then a j1 f2 f3 f4 f5 f6 f7 f8 f9 g0 g1 g2 g3 g4 g5 g6 g7 g8 g9 j0 (f4 !=z0) [] [] else a j1 f2 f3 f4 f5 f6 f7 f8 f9 g0 g1 g2 g3 g4 g5 g6 g7 g8 g9 j0 false [] []
theorem b_eq:ac7 Z 47 [vA [vS f2,vB f3,vI f4,vS f5,vS f6,vI f7,vI f8,vL f9 1 g0,vL g1 9 g2,vL g3 1 g4,vL g5 3 g6,vL g7 11 g8,vL g9 9 j0],vB j1] []=b Z.R Z.D (J0 Z) f2 f3 f4 f5 f6 f7 f8 f9 g0 g1 g2 g3 g4 g5 g6 g7 g8 g9 j0 j1:=by kernel_rfl
def J0b:Q->D->Tk3->Tk2:=fun G _ F a c d e f g i j k l m n p q r s t u v w x y z=>bif x then callS0 (G av5 [vS (⟨#[118,111,105,100]⟩:ByteArray),vT e f g i j k l m n p q r s,vO 0 0,vO 1 0] [O.box [(vL false 1 y,true)],O.box [(vL false 9 z,true)]]) (fun A C=>aT A fun E=>aN E (F a c d e f g i j k l m n p q r s t u v w C)) panK else F a c d e f g i j k l m n p q r s t u v w [O.box [(vL false 1 y,true)],O.box [(vL false 9 z,true)]]
theorem ab9:ac5 Z 47 .body J0P (J0F a c d e f g i j k l m n p q r s t u v w x y z)=J0b Z.R Z.D (J1 Z) a c d e f g i j k l m n p q r s t u v w x y z:=by kernel_rfl
def J1b:Q->D->Tk4->Tk3:=fun _ _ a A _ _ _ _ _ _ _ _ _ _ _ _ _ _ _ a3 a4 _ _ a7=>a A a3 a4 (a4.length:Int) z0 a7
theorem ak2:ac5 Z 47 .body J1P (J1F A C E F G H K L M P S T X a0 a1 a2 a3 a4 a5 a6 a7)=J1b Z.R Z.D (L2 Z) A C E F G H K L M P S T X a0 a1 a2 a3 a4 a5 a6 a7:=by kernel_rfl
def L2b:Q->D->Tk5->Tk4:=fun _ _ d5 a8 a9 c0 c1 c2 c3=>bif (decide (c2<c1)) then idxK c0 c2 fun C=>aC (V.cells C) fun E F=>aS E fun g=>aC F fun G H=>aI G fun a=>aTy H fun i j k l m n p q r s t u v=>(bif (a==(3:Int)) then d5 a8 a9 c0 c1 c2 true g a i j k l m n p q r s t u v c3 else d5 a8 a9 c0 c1 c2 ((a==(2:Int))==a8) g a i j k l m n p q r s t u v c3) else rd1 c3 0 0 fun c7=>aL 1 c7 fun c d=>aE2 [(rd1 c3 1 0 fun c8=>aL 9 c8 fun w x=>wrO c3 0 0 [(vL c 1 d,nilB (vL c 1 d))] fun c9=>wrO c9 1 0 [(vL w 9 x,nilB (vL w 9 x))] fun e=>rd1 e 0 0 fun d0=>rd1 e 1 0 fun d1=>retK [d0,d1] e),(wrO c3 0 0 [(vL c 1 d,nilB (vL c 1 d))] fun y=>rd1 y 1 0 fun d2=>aL 9 d2 fun z A=>wrO y 1 0 [(vL z 9 A,nilB (vL z 9 A))] fun f=>rd1 f 0 0 fun d3=>rd1 f 1 0 fun d4=>retK [d3,d4] f)]
theorem L2b_eq:ae4 Z 47 .body L2P (L2F a8 a9 c0 c1 c2 c3)=L2b Z.R Z.D (J3 Z) a8 a9 c0 c1 c2 c3:=by kernel_rfl
def J3b:Q->D->Tk4->Tk5:=fun f _ e c4 c5 c6 c7 c8 c9 d0 _ d2 d3 d4 d5 d6 d7 d8 d9 e0 e1 e2 e3 e4 e5=>bif c9 then callS0 (f av5 [vS d0,vT d2 d3 d4 d5 d6 d7 d8 d9 e0 e1 e2 e3 e4,vO 0 0,vO 1 0] e5) (fun a c=>aT a fun d=>aN d (e c4 c5 c6 c7 c8 c)) panK else e c4 c5 c6 c7 c8 e5
theorem aw4:ac5 Z 47 .body J3P (J3F c4 c5 c6 c7 c8 c9 d0 d1 d2 d3 d4 d5 d6 d7 d8 d9 e0 e1 e2 e3 e4 e5)=J3b Z.R Z.D (J4 Z) c4 c5 c6 c7 c8 c9 d0 d1 d2 d3 d4 d5 d6 d7 d8 d9 e0 e1 e2 e3 e4 e5:=by kernel_rfl
def J4b:Q->D->Tk4->Tk4:=fun _ _ a e6 e7 e8 e9 f0 f1=>a e6 e7 e8 e9 (w6 (f0+z1)) f1
theorem aF4:ac5 Z 47 .body J4P (J4F e6 e7 e8 e9 f0 f1)=J4b Z.R Z.D (L2 Z) e6 e7 e8 e9 f0 f1:=by kernel_rfl
theorem b_of {o}(h:b RZ.R RZ.D (J0 RZ) f2 f3 f4 f5 f6 f7 f8 f9 g0 g1 g2 g3 g4 g5 g6 g7 g8 g9 j0 j1=some o):RZ.R aA2 [vA [vS f2,vB f3,vI f4,vS f5,vS f6,vI f7,vI f8,vL f9 1 g0,vL g1 9 g2,vL g3 1 g4,vL g5 3 g6,vL g7 11 g8,vL g9 9 j0],vB j1] []=some o:=ab7 ((b_eq RZ ..).trans h)
theorem ad0 {o}(h:J0b RZ.R RZ.D (J1 RZ) a c d e f g i j k l m n p q r s t u v w x y z=some o):J0 RZ a c d e f g i j k l m n p q r s t u v w x y z=some o:=aa9 (by kernel_rfl) ((ab9 RZ ..).trans h)
theorem an7 {o}(h:J1b RZ.R RZ.D (L2 RZ) A C E F G H K L M P S T X a0 a1 a2 a3 a4 a5 a6 a7=some o):J1 RZ A C E F G H K L M P S T X a0 a1 a2 a3 a4 a5 a6 a7=some o:=aa9 (by kernel_rfl) ((ak2 RZ ..).trans h)
theorem L2_of {o}(h:L2b RZ.R RZ.D (J3 RZ) a8 a9 c0 c1 c2 c3=some o):L2 RZ a8 a9 c0 c1 c2 c3=some o:=ac9 ((L2b_eq RZ ..).trans h)
theorem aH9 {o}(h:J3b RZ.R RZ.D (J4 RZ) c4 c5 c6 c7 c8 c9 d0 d1 d2 d3 d4 d5 d6 d7 d8 d9 e0 e1 e2 e3 e4 e5=some o):J3 RZ c4 c5 c6 c7 c8 c9 d0 d1 d2 d3 d4 d5 d6 d7 d8 d9 e0 e1 e2 e3 e4 e5=some o:=aa9 (by kernel_rfl) ((aw4 RZ ..).trans h)
theorem aS3 {o}(h:J4b RZ.R RZ.D (L2 RZ) e6 e7 e8 e9 f0 f1=some o):J4 RZ e6 e7 e8 e9 f0 f1=some o:=aa9 (by kernel_rfl) ((aF4 RZ ..).trans h)
end
end ad2
namespace aa8
section
variable (a c:V)(d:Lo)(e f:Int)(g:Lo)
def L0P:List Nat:=[0,1,0,1]
def L0F:St:=⟨mkT 19 [(0,a,.no),(1,c,.no),(7,vI e,.no),(8,vI f,.no)],mkA 0 [],0,[],g,[]⟩
def L0:=Z.X 78 .body L0P (L0F a c e f g)
def b:Q->D->Tk6->V->V->Lo->R:=fun _ _ f a c d=>(lnV a).bind fun e=>f a c e z0 d
theorem b_eq:ac7 Z 78 [a,c] d=b Z.R Z.D (L0 Z) a c d:=by kernel_rfl
def L0b:Q->D->Tk6->Tk6:=fun y _ x a c e f g=>bif (decide (f<e)) then (ixV 3 a f).bind fun d=>ck (bn5 d) (ldA g d 3 fun j=>aA (vA j) fun k=>aC k fun l m=>aS l fun n=>aC m fun p q=>aI p fun r=>aC q fun s t=>aB s fun u=>aN t (aV9 y c [vA [vS n,vI r,vB u]] g (fun v i=>aB v fun w=>bif w then retR [vI f] i else x a c e (w6 (f+z1)) i) panK)) else retR [vI (-1)] g
theorem ag9:ae4 Z 78 .body L0P (L0F a c e f g)=L0b Z.R Z.D (L0 Z) a c e f g:=by kernel_rfl
theorem b_of {o}(h:b RZ.R RZ.D (L0 RZ) a c d=some o):RZ.R ag2 [a,c] d=some o:=ab7 ((b_eq RZ ..).trans h)
theorem ag6 {o}(h:L0b RZ.R RZ.D (L0 RZ) a c e f g=some o):L0 RZ a c e f g=some o:=ac9 ((ag9 RZ ..).trans h)
end
end aa8
namespace af0
section
variable (a:B)(c:Int)(d e:Y)(f g:Int)(i:B)(j:W)(k:B)(l:W)(m:B)(n:W)(p:B)(q:W)
def J0P:List Nat:=[0,0,1,0,1,0,1]
def J0F:St:=⟨mkT 137 [(2,vB a,.no)],mkA 0 [],0,[],[],[]⟩
def J0:=Z.X 81 .body J0P (J0F a)
def J1P:List Nat:=[0,0,1,1,1,0,1,0,1]
def J1F:St:=⟨mkT 137 [(2,vB a,.no)],mkA 0 [],0,[],[],[]⟩
def J1:=Z.X 81 .body J1P (J1F a)
def J2P:List Nat:=[0,0,1,1,1,1,1,0,1,0,1]
def J2F:St:=⟨mkT 137 [(2,vB a,.no)],mkA 0 [],0,[],[],[]⟩
def J2:=Z.X 81 .body J2P (J2F a)
def J3P:List Nat:=[0,0,1,1,1,1,1,1,1,0,1,0,1]
def J3F:St:=⟨mkT 137 [(2,vB a,.no)],mkA 0 [],0,[],[],[]⟩
def J3:=Z.X 81 .body J3P (J3F a)
def J4P:List Nat:=[0,0,1,1,1,1,1,1,1,1,1,0,1,0,1]
def J4F:St:=⟨mkT 137 [(2,vB a,.no)],mkA 0 [],0,[],[],[]⟩
def J4:=Z.X 81 .body J4P (J4F a)
def J5P:List Nat:=[0,0,1,1,1,1,1,1,1,1,1,1,1,1,1,0,1,0,1]
def J5F:St:=⟨mkT 137 [(2,vB a,.no)],mkA 0 [],0,[],[],[]⟩
def J5:=Z.X 81 .body J5P (J5F a)
def J6P:List Nat:=[0,0,1,1,1,1,1,1,1,1,1,1,1,1,1,1,1,0,1,0,1]
def J6F:St:=⟨mkT 137 [(2,vB a,.no)],mkA 0 [],0,[],[],[]⟩
def J6:=Z.X 81 .body J6P (J6F a)
def b:Q->D->(B->R)->(B->R)->(B->R)->(B->R)->(B->R)->(B->R)->(B->R)->Tk7:=fun X _ H K L M P S T c d e f g i j k l m n p q=>bif (c==(7:Int)) then bif (decide (f>=0)) then H (decide (f<=1000)) else H false else bif (c==(8:Int)) then bif (decide (f>=1)) then bif (decide (f<=31)) then bif (decide (g>=0)) then K (decide (g<=f)) else K false else K false else K false else bif (c==(9:Int)) then bif (decide ((j.length:Int)>=1)) then bif (decide ((j.length:Int)<=24)) then ck (aa0 [vL i 1 j,vI (j.length:Int)]) (cP (X aq1 [vL i 1 j,vI (j.length:Int)] []) (fun a=>aB a fun r=>L r) fun s=>panK s []) else L false else L false else bif (c==(10:Int)) then bif (decide ((l.length:Int)>=1)) then bif (decide ((l.length:Int)<=24)) then ck (aa0 [vL i 1 j,vI (l.length:Int)]) (cP (X aq1 [vL i 1 j,vI (l.length:Int)] []) (fun t=>aB t fun u=>M u) fun v=>panK v []) else M false else M false else bif (c==(15:Int)) then bif (decide ((l.length:Int)<=24)) then ck (aa0 [vL i 1 j,vI (l.length:Int)]) (cP (X aq1 [vL i 1 j,vI (l.length:Int)] []) (fun w=>aB w fun x=>P x) fun y=>panK y []) else P false else bif (c==(11:Int)) then ck (aa0 [vT c d e f g i j k l m n p q]) (cP (X as6 [vT c d e f g i j k l m n p q] []) (fun z=>aB z fun A=>retR [vB A] []) fun C=>panK C []) else bif (c==(12:Int)) then bif (decide (f>=0)) then bif (decide (f<=1000)) then S ((l.length:Int)==z1) else S false else S false else bif (c==(13:Int)) then bif (decide (f>=1)) then bif (decide (f<=1000)) then T ((l.length:Int)==z1) else T false else T false else bif (c==(14:Int)) then retR [vB ((l.length:Int)==z1)] [] else bif (c==(17:Int)) then ck (aa0 [vT c d e f g i j k l m n p q]) (cP (X aw8 [vT c d e f g i j k l m n p q] []) (fun E=>aB E fun F=>retR [vB F] []) fun G=>panK G []) else retR [vB true] []
theorem b_eq:ac7 Z 81 [vT c d e f g i j k l m n p q] []=b Z.R Z.D (J0 Z) (J1 Z) (J2 Z) (J3 Z) (J4 Z) (J5 Z) (J6 Z) c d e f g i j k l m n p q:=by kernel_rfl
def J0b:Q->D->B->R:=fun _ _ a=>retR [vB a] []
theorem ab9:ac5 Z 81 .body J0P (J0F a)=J0b Z.R Z.D a:=by kernel_rfl
def J1b:Q->D->B->R:=fun _ _ a=>retR [vB a] []
theorem ak2:ac5 Z 81 .body J1P (J1F a)=J1b Z.R Z.D a:=by kernel_rfl
def J2b:Q->D->B->R:=fun _ _ a=>retR [vB a] []
theorem ah0:ac5 Z 81 .body J2P (J2F a)=J2b Z.R Z.D a:=by kernel_rfl
def J3b:Q->D->B->R:=fun _ _ a=>retR [vB a] []
theorem aw4:ac5 Z 81 .body J3P (J3F a)=J3b Z.R Z.D a:=by kernel_rfl
def J4b:Q->D->B->R:=fun _ _ a=>retR [vB a] []
theorem aF4:ac5 Z 81 .body J4P (J4F a)=J4b Z.R Z.D a:=by kernel_rfl
def J5b:Q->D->B->R:=fun _ _ a=>retR [vB a] []
theorem aA0:ac5 Z 81 .body J5P (J5F a)=J5b Z.R Z.D a:=by kernel_rfl
def J6b:Q->D->B->R:=fun _ _ a=>retR [vB a] []
theorem aN8:ac5 Z 81 .body J6P (J6F a)=J6b Z.R Z.D a:=by kernel_rfl
theorem b_of {o}(h:b RZ.R RZ.D (J0 RZ) (J1 RZ) (J2 RZ) (J3 RZ) (J4 RZ) (J5 RZ) (J6 RZ) c d e f g i j k l m n p q=some o):RZ.R aA3 [vT c d e f g i j k l m n p q] []=some o:=ab7 ((b_eq RZ ..).trans h)
theorem ad0 {o}(h:J0b RZ.R RZ.D a=some o):J0 RZ a=some o:=aa9 (by kernel_rfl) ((ab9 RZ ..).trans h)
theorem an7 {o}(h:J1b RZ.R RZ.D a=some o):J1 RZ a=some o:=aa9 (by kernel_rfl) ((ak2 RZ ..).trans h)
theorem ak5 {o}(h:J2b RZ.R RZ.D a=some o):J2 RZ a=some o:=aa9 (by kernel_rfl) ((ah0 RZ ..).trans h)
theorem aH9 {o}(h:J3b RZ.R RZ.D a=some o):J3 RZ a=some o:=aa9 (by kernel_rfl) ((aw4 RZ ..).trans h)
theorem aS3 {o}(h:J4b RZ.R RZ.D a=some o):J4 RZ a=some o:=aa9 (by kernel_rfl) ((aF4 RZ ..).trans h)
theorem aM6 {o}(h:J5b RZ.R RZ.D a=some o):J5 RZ a=some o:=aa9 (by kernel_rfl) ((aA0 RZ ..).trans h)
theorem aV8 {o}(h:J6b RZ.R RZ.D a=some o):J6 RZ a=some o:=aa9 (by kernel_rfl) ((aN8 RZ ..).trans h)
end
end af0
namespace ah2
section
variable (a:V)(c:Lo)
def b:Q->D->V->Lo->R:=fun _ _ a c=>ck (V.good a) (ck (ac8 [a]) (retR [V.func (.func 101) [] [vR [a]]] c))
theorem b_eq:ac7 Z 90 [a] c=b Z.R Z.D a c:=by kernel_rfl
theorem b_of {o}(h:b RZ.R RZ.D a c=some o):RZ.R ag5 [a] c=some o:=ab7 ((b_eq RZ ..).trans h)
end
end ah2
namespace af8
section
variable (f:Int)(g i:Y)(j k w:Int)(x y:Y)(z A:Int)(a:B)(C l:W)(c:B)(E m:W)(d:B)(F n:W)(e:B)(G p:W)(q:B)(r:W)(s:B)(t:W)(u v:Int)(H:B)(K:Y)(L:Int)(M P:B)
def J0P:List Nat:=[0,0,1,1]
def J0F:St:=⟨mkT 105 [(1,vQ f g i j k a l c m d n e p,.no),(62,vB P,.no)],mkA 1 [],0,[],[],[]⟩
def J0:=Z.X 94 .body J0P (J0F f g i j k a l c m d n e p P)
def L1P:List Nat:=[0,1,0,1,1,1,1]
def L1F:St:=⟨mkT 105 [(1,vQ f g i j k a l c m d n e p,.no),(4,vL q 1 r,.tok 0),(64,vL s 3 t,.no),(65,vI u,.no),(66,vI v,.no)],mkA 1 [],1,[0],[],[]⟩
def L1:=Z.X 94 .body L1P (L1F f g i j k a l c m d n e p q r s t u v)
def J2P:List Nat:=[0,0,1,0,0,1,1,0,0,1,0,1,1,1,1]
def J2F:St:=⟨mkT 105 [(1,vQ f g i j k a l c m d n e p,.no),(4,vL q 1 r,.tok 0),(6,V.loc 0 0,.no),(64,vL s 3 t,.no),(65,vI u,.no),(66,vI v,.no),(95,vB H,.no)],mkA 1 [(0,[(vS K,.no),(vI L,.no),(vB M,.no)])],1,[0],[],[]⟩
def J2:=Z.X 94 .body J2P (J2F f g i j k a l c m d n e p q r s t u v H K L M)
def b:Q->D->Tk8->Tk7:=fun a4 _ a3 w x y z A a C c E d F e G=>bif (decide ((G.length:Int)<1)) then a3 w x y z A a C c E d F e G true else bif (decide ((G.length:Int)>6)) then a3 w x y z A a C c E d F e G true else idxK G z0 fun f=>aC (V.cells f) fun g i=>aS g fun _=>aC i fun j k=>aI j fun _=>aC k fun l m=>aB l fun n=>aN m (bif n then a3 w x y z A a C c E d F e G true else idxK G (w6 ((G.length:Int)-z1)) fun p=>aC (V.cells p) fun q r=>aS q fun _=>aC r fun s t=>aI s fun u=>aC t fun v H=>aB v fun _=>aN H (bif (u !=(E.length:Int)) then a3 w x y z A a C c E d F e G true else idxK G (w6 ((G.length:Int)-z1)) fun K=>aC (V.cells K) fun L M=>aS L fun P=>aC M fun S T=>aI S fun _=>aC T fun X a0=>aB X fun _=>aN a0 (bif (!(P.toList==x.toList)) then a3 w x y z A a C c E d F e G true else bif (decide ((E.length:Int)>24)) then a3 w x y z A a C c E d F e G true else ck (aa0 [vL a 1 C,vI (E.length:Int)]) (cP (a4 aq1 [vL a 1 C,vI (E.length:Int)] []) (fun a1=>aB a1 fun a2=>a3 w x y z A a C c E d F e G (!a2)) fun _=>none))))
theorem b_eq:ac7 Z 94 [vT w x y z A a C c E d F e G] []=b Z.R Z.D (J0 Z) w x y z A a C c E d F e G:=by kernel_rfl
def J0b:Q->D->Tk9->Tk8:=fun _ _ q f g i j k a l c m d n e p P=>bif P then retR [vB false] [] else q f g i j k a l c m d n e p false [] e p (p.length:Int) z0
theorem ab9:ac5 Z 94 .body J0P (J0F f g i j k a l c m d n e p P)=J0b Z.R Z.D (L1 Z) f g i j k a l c m d n e p P:=by kernel_rfl
def L1b:Q->D->Tk10->Tk9:=fun a7 _ a6 f g i j k a l c m d n e p q r s t u v=>bif (decide (v<u)) then idxK t v fun z=>aC (V.cells z) fun A C=>aS A fun x=>aC C fun E F=>aI E fun w=>aC F fun G H=>aB G fun y=>aN H (cP (a7 aM0 [vS x] []) (fun K=>aB K fun L=>bif (!L) then a6 f g i j k a l c m d n e p q r s t u v true x w y else bif (decide (w<0)) then a6 f g i j k a l c m d n e p q r s t u v true x w y else bif (decide (v>0)) then idxK p (w6 (v-z1)) fun M=>aC (V.cells M) fun P S=>aS P fun _=>aC S fun T X=>aI T fun a0=>aC X fun a1 a2=>aB a1 fun _=>aN a2 (a6 f g i j k a l c m d n e p q r s t u v (decide (w<a0)) x w y) else a6 f g i j k a l c m d n e p q r s t u v false x w y) fun _=>none) else ck (aa0 [vL q 1 r]) (cP (a7 as7 [vL q 1 r] []) (fun a3=>aB a3 fun a4=>retR [vB (!a4)] []) fun a5=>panK a5 [])
theorem ak9:ae4 Z 94 .body L1P (L1F f g i j k a l c m d n e p q r s t u v)=L1b Z.R Z.D (J2 Z) f g i j k a l c m d n e p q r s t u v:=by kernel_rfl
def J2b:Q->D->Tk9->Tk10:=fun _ _ w f g i j k a l c m d n e p q r s t u v H K _ _=>bif H then retR [vB false] [] else apK r [vS K] 16 (w f g i j k a l c m d n e p (q||![vS K].isEmpty) (r++[vS K]) s t u (w6 (v+z1)))
theorem ah0:ac5 Z 94 .body J2P (J2F f g i j k a l c m d n e p q r s t u v H K L M)=J2b Z.R Z.D (L1 Z) f g i j k a l c m d n e p q r s t u v H K L M:=by kernel_rfl
theorem b_of {o}(h:b RZ.R RZ.D (J0 RZ) w x y z A a C c E d F e G=some o):RZ.R aw8 [vT w x y z A a C c E d F e G] []=some o:=ab7 ((b_eq RZ ..).trans h)
theorem ad0 {o}(h:J0b RZ.R RZ.D (L1 RZ) f g i j k a l c m d n e p P=some o):J0 RZ f g i j k a l c m d n e p P=some o:=aa9 (by kernel_rfl) ((ab9 RZ ..).trans h)
theorem ak4 {o}(h:L1b RZ.R RZ.D (J2 RZ) f g i j k a l c m d n e p q r s t u v=some o):L1 RZ f g i j k a l c m d n e p q r s t u v=some o:=ac9 ((ak9 RZ ..).trans h)
theorem ak5 {o}(h:J2b RZ.R RZ.D (L1 RZ) f g i j k a l c m d n e p q r s t u v H K L M=some o):J2 RZ f g i j k a l c m d n e p q r s t u v H K L M=some o:=aa9 (by kernel_rfl) ((ah0 RZ ..).trans h)
end
end af8
end
end Go.Proofs.YtflhfchgdpbhcaaGreat.E
