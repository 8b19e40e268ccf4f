/- It is proved of functions that StubTypes reaches what their evaluation is, in plain words. No condition. -/
import Derived.Test.YtflhfchgdpbhcaaGreatLH
set_option maxRecDepth 100000
set_option maxHeartbeats 40000
namespace Go.Proofs.YtflhfchgdpbhcaaGreat.E
open Go
noncomputable section
abbrev Th0:=Int->Y->Y->Int->Int->B->W->B->W->B->W->B->W->R
abbrev Th1:=B->W->B->W->Int->Int->Int->Y->Y->Int->Int->W->B->W->B->W->W->W->W->W->W->R
abbrev Th2:=Int->Y->Y->Int->Int->B->W->B->W->B->W->B->W->V->Y->Int->Lo->R
abbrev Th3:=V->Int->Int->Lo->R
abbrev Th4:=B->Int->Y->Y->Int->Int->B->W->B->W->B->W->B->W->W->W->W->W->Lo->R
abbrev Th5:=Nat->Nat->Int->Y->Y->Int->Int->B->W->B->W->B->W->B->W->Lo->R
variable (Z:Env)
namespace aC3
section
variable (a:B)(c:Int)(d e:Y)(f g:Int)(i:B)(j:W)(k:B)(l:W)(m:B)(n:W)(p:B)(q:W)
def J0P:List Nat:=[0,1]
def J0F:St:=⟨mkT 9 [(2,vB a,.no)],mkA 0 [],0,[],[],[]⟩
def J0:=Z.X 29 .body J0P (J0F a)
def b:Q->D->(B->R)->Th0:=fun x _ w c d e f g i j k l m n p q=>ck (aa0 [vT c d e f g i j k l m n p q]) (cP (x aR0 [vT c d e f g i j k l m n p q] []) (fun a=>aB a fun r=>bif r then ck (aa0 [vT c d e f g i j k l m n p q,vL false 0 [],vI 1]) (cP (x aj2 [vT c d e f g i j k l m n p q,vL false 0 [],vI 1] []) (fun s=>aB s fun t=>w t) fun u=>panK u []) else w false) fun v=>panK v [])
theorem b_eq:ac7 Z 29 [vT c d e f g i j k l m n p q] []=b Z.R Z.D (J0 Z) c d e f g i j k l m n p q:=by kernel_rfl
def J0b:Q->D->B->R:=fun _ _ a=>retR [vB a] []
theorem ab9:ac5 Z 29 .body J0P (J0F a)=J0b Z.R Z.D a:=by kernel_rfl
theorem b_of {o}(h:b RZ.R RZ.D (J0 RZ) c d e f g i j k l m n p q=some o):RZ.R am9 [vT c d e f g i j k l m n p q] []=some o:=ab7 ((b_eq RZ ..).trans h)
theorem ad0 {o}(h:J0b RZ.R RZ.D a=some o):J0 RZ a=some o:=aa9 (by kernel_rfl) ((ab9 RZ ..).trans h)
end
end aC3
namespace aj8
section
variable (a:B)(c:W)(d:B)(e:W)(f g i:Int)(j k:Y)(l m:Int)(n:W)(p:B)(q:W)(r:B)(s t u v w x:W)(y:Int)(z A:Y)(C E:Int)(F:B)(G:W)(H:B)(K:W)(L:B)(M:W)(P:B)(S:W)
def L0P:List Nat:=[0,1,0,1,1,1,1]
def L0F:St:=⟨mkT 51 [(1,V.loc 0 0,.no),(2,V.loc 1 0,.no),(3,vL a 1 c,.tok 0),(20,vL d 1 e,.no),(21,vI f,.no),(22,vI g,.no)],mkA 3 [(0,[(vI i,.no),(vS j,.no),(vS k,.no),(vI l,.no),(vI m,.no),(vL true 1 n,.tok 1),(vL p 9 q,.no),(vL r 1 s,.no),(vL true 3 t,.tok 2)]),(1,[(vI 0,.no),(vS (⟨#[]⟩:ByteArray),.no),(vS (⟨#[]⟩:ByteArray),.no),(vI 0,.no),(vI 0,.no),(vL false 1 u,.full),(vL false 9 v,.full),(vL false 1 w,.full),(vL false 3 x,.full)])],3,[0,1,2],[],[]⟩
def L0:=Z.X 35 .body L0P (L0F a c d e f g i j k l m n p q r s t u v w x)
def L1P:List Nat:=[0,1,0,1,1,1,1,1,1,1]
def L1F:St:=⟨mkT 51 [(1,V.loc 0 0,.no),(2,V.loc 1 0,.no),(6,vL a 9 c,.tok 0),(36,vL d 9 e,.no),(37,vI f,.no),(38,vI g,.no)],mkA 3 [(0,[(vI i,.no),(vS j,.no),(vS k,.no),(vI l,.no),(vI m,.no),(vL true 1 n,.tok 1),(vL p 9 q,.no),(vL r 1 s,.no),(vL true 3 t,.tok 2)]),(1,[(vI 0,.no),(vS (⟨#[]⟩:ByteArray),.no),(vS (⟨#[]⟩:ByteArray),.no),(vI 0,.no),(vI 0,.no),(vL false 1 u,.full),(vL false 9 v,.full),(vL false 1 w,.full),(vL false 3 x,.full)])],3,[0,1,2],[],[]⟩
def L1:=Z.X 35 .body L1P (L1F a c d e f g i j k l m n p q r s t u v w x)
def b:Q->D->Th1->Th0:=fun _ _ a y z A C E _ G H K L M _ S=>apK [] G 16 (apK [] S 32 (a false [] L M (M.length:Int) z0 y z A C E ([]++G) H K L M ([]++S) [] [] [] []))
theorem b_eq:ac7 Z 35 [vT y z A C E F G H K L M P S] []=b Z.R Z.D (L0 Z) y z A C E F G H K L M P S:=by kernel_rfl
def L0b:Q->D->Th1->Th1->Th1:=fun _ _ E F a c d e f g i j k l m n p q r s t u v w x=>bif (decide (g<f)) then idxK e g fun z=>aC (V.cells z) fun A C=>aL 1 A fun _ y=>aN C (apK [] y 8 (apK c [vL true 1 ([]++y)] 24 (E (a||![vL true 1 ([]++y)].isEmpty) (c++[vL true 1 ([]++y)]) d e f (w6 (g+z1)) i j k l m n p q r s t u v w x))) else F false [] p q (q.length:Int) z0 i j k l m n p q a c t u v w x
theorem ag9:ae4 Z 35 .body L0P (L0F a c d e f g i j k l m n p q r s t u v w x)=L0b Z.R Z.D (L0 Z) (L1 Z) a c d e f g i j k l m n p q r s t u v w x:=by kernel_rfl
def L1b:Q->D->Th1->Th1:=fun g2 _ g1 a c d e f g i j k l m n p q r s t u v w x=>bif (decide (g<f)) then idxK e g fun c1=>aTy (V.cells c1) fun T X a0 a1 a2 a3 a4 a5 a6 a7 a8 a9 c0=>(ck (aa0 [vT T X a0 a1 a2 a3 a4 a5 a6 a7 a8 a9 c0]) (cP (g2 ar6 [vT T X a0 a1 a2 a3 a4 a5 a6 a7 a8 a9 c0] []) (fun e0=>aA e0 fun e1=>aTy e1 fun y z A C E F G H K L M P S=>(apK c [vT y z A C E F G H K L M P S] 152 (g1 (a||![vT y z A C E F G H K L M P S].isEmpty) (c++[vT y z A C E F G H K L M P S]) d e f (w6 (g+z1)) i j k l m n p q r s t u v w x))) fun g0=>panK g0 [])) else retR [vT i j k l m true n a c r s true t] []
theorem ak9:ae4 Z 35 .body L1P (L1F a c d e f g i j k l m n p q r s t u v w x)=L1b Z.R Z.D (L1 Z) a c d e f g i j k l m n p q r s t u v w x:=by kernel_rfl
theorem b_of {o}(h:b RZ.R RZ.D (L0 RZ) y z A C E F G H K L M P S=some o):RZ.R ar6 [vT y z A C E F G H K L M P S] []=some o:=ab7 ((b_eq RZ ..).trans h)
theorem ag6 {o}(h:L0b RZ.R RZ.D (L0 RZ) (L1 RZ) a c d e f g i j k l m n p q r s t u v w x=some o):L0 RZ a c d e f g i j k l m n p q r s t u v w x=some o:=ac9 ((ag9 RZ ..).trans h)
theorem ak4 {o}(h:L1b RZ.R RZ.D (L1 RZ) a c d e f g i j k l m n p q r s t u v w x=some o):L1 RZ a c d e f g i j k l m n p q r s t u v w x=some o:=ac9 ((ak9 RZ ..).trans h)
end
end aj8
namespace aY1
section
variable (a:Int)(c d:Y)(e f:Int)(g:B)(i:W)(j:B)(k:W)(l:B)(m:W)(n:B)(p:W)
def b:Q->D->Th0:=fun t _ a c d e f g i j k l m n p=>ck (aa0 [vT a c d e f g i j k l m n p,vI 1,vI 0]) (cP (t aw9 [vT a c d e f g i j k l m n p,vI 1,vI 0] []) (fun q=>aI q fun r=>retR [vB (decide (r<=300))] []) fun s=>panK s [])
theorem b_eq:ac7 Z 43 [vT a c d e f g i j k l m n p] []=b Z.R Z.D a c d e f g i j k l m n p:=by kernel_rfl
theorem b_of {o}(h:b RZ.R RZ.D a c d e f g i j k l m n p=some o):RZ.R aR0 [vT a c d e f g i j k l m n p] []=some o:=ab7 ((b_eq RZ ..).trans h)
end
end aY1
namespace ref03_referred
end ref03_referred
namespace af7
section
variable (a c:V)(d:Lo)
def b:Q->D->V->V->Lo->R:=fun i _ a c d=>ck ([a,c].all am0) (cS (i ag2 [a,c] d) (fun e f=>aI e fun g=>retR [vB (decide (g>=0))] f) panK)
theorem b_eq:ac7 Z 50 [a,c] d=b Z.R Z.D a c d:=by kernel_rfl
theorem b_of {o}(h:b RZ.R RZ.D a c d=some o):RZ.R af6 [a,c] d=some o:=ab7 ((b_eq RZ ..).trans h)
end
end af7
namespace ae6
section
variable (a:Int)(c d:Y)(e f:Int)(g:B)(i:W)(j:B)(k:W)(l:B)(m:W)(n:B)(p:W)(q:V)(r:Y)(s:Int)(t:Lo)(u:V)(v w:Int)(x:Lo)(y:V)(z:Lo)(A:V)(C:Int)(E F:Y)(G H:Int)(K:B)(L:W)(M:B)(P:W)(S:B)(T:W)(X:B)(a0:W)
def J0P:List Nat:=[1,0,1,1,1]
def J0F:St:=⟨mkT 40 [(3,vQ a c d e f g i j k l m n p,.no),(5,q,.no),(6,V.loc 0 0,.no)],mkA 1 [(0,[(vS r,.no),(vI s,.no),(vB false,.no)])],0,[],t,[]⟩
def J0:=Z.X 57 .body J0P (J0F a c d e f g i j k l m n p q r s t)
def L1P:List Nat:=[0,1,0,1,0,1,1,1,1,1]
def L1F:St:=⟨mkT 40 [(5,u,.no),(30,vI v,.no),(31,vI w,.no)],mkA 1 [],0,[],x,[]⟩
def L1:=Z.X 57 .body L1P (L1F u v w x)
def J2P:List Nat:=[1,0,1,1,1,1,1]
def J2F:St:=⟨mkT 40 [(5,y,.no)],mkA 1 [],0,[],z,[]⟩
def J2:=Z.X 57 .body J2P (J2F y z)
def b:Q->D->Th2->V->Int->Y->Y->Int->Int->B->W->B->W->B->W->B->W->R:=fun g _ f A C E F G H K L M P S T X a0=>(apS 3 32 [O.box []] (V.slo 0 0 3 0 0,.no) A).bind fun a=>cP (g at6 [vI C] []) (fun c=>aI c fun d=>bif ((w6 ((BitVec.ofInt IntKind.i64.bits d&&& BitVec.ofInt IntKind.i64.bits z1).toNat:Int)) !=z0) then f C E F G H K L M P S T X a0 a.1 E C a.2 else f C E F G H K L M P S T X a0 a.1 (⟨#[]⟩:ByteArray) C a.2) fun e=>panK e a.2
theorem b_eq:ac7 Z 57 [A,vT C E F G H K L M P S T X a0] []=b Z.R Z.D (J0 Z) A C E F G H K L M P S T X a0:=by kernel_rfl
def J0b:Q->D->Th3->(V->Lo->R)->Th2:=fun _ _ w x a _ _ _ _ _ _ _ _ _ _ _ _ q r s t=>(apS 3 32 t (q,.no) (vL true 3 [vA [vS r,vI s,vB false]])).bind fun u=>ck (nlB 0 [(u.1,.no)]) (bif (a==(12:Int)) then (lnV u.1).bind fun v=>w u.1 v z0 u.2 else x u.1 u.2)
theorem ab9:ac5 Z 57 .body J0P (J0F a c d e f g i j k l m n p q r s t)=J0b Z.R Z.D (L1 Z) (J2 Z) a c d e f g i j k l m n p q r s t:=by kernel_rfl
def L1b:Q->D->Th3->(V->Lo->R)->Th3:=fun _ _ f g u v w x=>bif (decide (w<v)) then (ixV 3 u w).bind fun a=>ck (bn5 a) (ck (bn5 (fldV 2 a)) (aO (fldV 2 a) fun c d=>wrO x c d [(vB true,false)] fun e=>f u v (w6 (w+z1)) e)) else g u x
theorem ak9:ae4 Z 57 .body L1P (L1F u v w x)=L1b Z.R Z.D (L1 Z) (J2 Z) u v w x:=by kernel_rfl
def J2b:Q->D->V->Lo->R:=fun _ _ y z=>(frzV z y).bind fun a=>retK [a.1] a.2
theorem ah0:ac5 Z 57 .body J2P (J2F y z)=J2b Z.R Z.D y z:=by kernel_rfl
theorem b_of {o}(h:b RZ.R RZ.D (J0 RZ) A C E F G H K L M P S T X a0=some o):RZ.R aN5 [A,vT C E F G H K L M P S T X a0] []=some o:=ab7 ((b_eq RZ ..).trans h)
theorem ad0 {o}(h:J0b RZ.R RZ.D (L1 RZ) (J2 RZ) a c d e f g i j k l m n p q r s t=some o):J0 RZ a c d e f g i j k l m n p q r s t=some o:=aa9 (by kernel_rfl) ((ab9 RZ ..).trans h)
theorem ak4 {o}(h:L1b RZ.R RZ.D (L1 RZ) (J2 RZ) u v w x=some o):L1 RZ u v w x=some o:=ac9 ((ak9 RZ ..).trans h)
theorem ak5 {o}(h:J2b RZ.R RZ.D y z=some o):J2 RZ y z=some o:=aa9 (by kernel_rfl) ((ah0 RZ ..).trans h)
end
end ae6
namespace aM7
section
variable (a:Y)(c:Int)(d e:Y)(f g:Int)(i:B)(j:W)(k:B)(l:W)(m:B)(n:W)(p:B)(q:W)(r s:Nat)(t:Lo)
def b:Q->D->Y->Int->Y->Y->Int->Int->B->W->B->W->B->W->B->W->Nat->Nat->Lo->R:=fun a83 _ a c d e f g i j k l m n p q r s t=>aE2 [rdT t r 0 (fun c3=>aL 1 c3 fun c4 u=>aE2 [apK u [vS a] 16 (ck (!c4) (ck (aa0 [vT c d e f g i j k l m n p q]) (cP (a83 ak1 [vT c d e f g i j k l m n p q] []) (fun s1=>aA s1 fun s2=>aTy s2 fun w x y z A C E F G H K L M=>(rdT t s 0 (fun c5=>aL 9 c5 fun u1 k4=>apK k4 [vT w x y z A C E F G H K L M] 152 (ck (!u1) (wrO t r 0 [(vL true 1 (u++[vS a]),true)] fun u2=>wrO u2 s 0 [(vL true 9 (k4++[vT w x y z A C E F G H K L M]),true)] fun u3=>retR [] u3))) fun c5 u4=>aL 9 c5 fun u5 k5=>apK k5 [vT w x y z A C E F G H K L M] 152 (wrO u4 r 0 [(vL true 1 (u++[vS a]),true)] fun u6=>wrO u6 s 0 [(vL (u5||![vT w x y z A C E F G H K L M].isEmpty) 9 (k5++[vT w x y z A C E F G H K L M]),true)] fun u7=>retR [] u7))) fun _=>none))),rdT t s 0 (fun c6=>aL 9 c6 fun u8 k6=>apK u [vS a] 16 (ck (!c4) (ck (aa0 [vT c d e f g i j k l m n p q]) (cP (a83 ak1 [vT c d e f g i j k l m n p q] []) (fun u9=>aA u9 fun v0=>aTy v0 fun k7 k8 k9 l0 l1 l2 l3 l4 l5 l6 l7 l8 l9=>(apK k6 [vT k7 k8 k9 l0 l1 l2 l3 l4 l5 l6 l7 l8 l9] 152 (ck (!u8) (wrO t r 0 [(vL true 1 (u++[vS a]),true)] fun x9=>wrO x9 s 0 [(vL true 9 (k6++[vT k7 k8 k9 l0 l1 l2 l3 l4 l5 l6 l7 l8 l9]),true)] fun y0=>retR [] y0)))) fun _=>none)))) fun c6 y1=>aL 9 c6 fun y2 m0=>apK u [vS a] 16 (ck (!c4) (ck (aa0 [vT c d e f g i j k l m n p q]) (cP (a83 ak1 [vT c d e f g i j k l m n p q] []) (fun y3=>aA y3 fun y4=>aTy y4 fun c7 c8 c9 d0 d1 d2 d3 d4 d5 d6 d7 d8 d9=>(apK m0 [vT c7 c8 c9 d0 d1 d2 d3 d4 d5 d6 d7 d8 d9] 152 (wrO y1 r 0 [(vL true 1 (u++[vS a]),true)] fun C3=>wrO C3 s 0 [(vL (y2||![vT c7 c8 c9 d0 d1 d2 d3 d4 d5 d6 d7 d8 d9].isEmpty) 9 (m0++[vT c7 c8 c9 d0 d1 d2 d3 d4 d5 d6 d7 d8 d9]),true)] fun C4=>retR [] C4))) fun _=>none)))]) fun c3 a9=>aL 1 c3 fun c0 v=>aE2 [apK v [vS a] 16 (ck (aa0 [vT c d e f g i j k l m n p q]) (cP (a83 ak1 [vT c d e f g i j k l m n p q] []) (fun C5=>aA C5 fun C6=>aTy C6 fun P S T X a0 a1 a2 a3 a4 a5 a6 a7 a8=>(rdT a9 s 0 (fun e0=>aL 9 e0 fun F5 m1=>apK m1 [vT P S T X a0 a1 a2 a3 a4 a5 a6 a7 a8] 152 (ck (!F5) (wrO a9 r 0 [(vL (c0||![vS a].isEmpty) 1 (v++[vS a]),true)] fun F6=>wrO F6 s 0 [(vL true 9 (m1++[vT P S T X a0 a1 a2 a3 a4 a5 a6 a7 a8]),true)] fun F7=>retR [] F7))) fun e0 F8=>aL 9 e0 fun F9 m2=>apK m2 [vT P S T X a0 a1 a2 a3 a4 a5 a6 a7 a8] 152 (wrO F8 r 0 [(vL (c0||![vS a].isEmpty) 1 (v++[vS a]),true)] fun G0=>wrO G0 s 0 [(vL (F9||![vT P S T X a0 a1 a2 a3 a4 a5 a6 a7 a8].isEmpty) 9 (m2++[vT P S T X a0 a1 a2 a3 a4 a5 a6 a7 a8]),true)] fun G1=>retR [] G1))) fun _=>none)),rdT a9 s 0 (fun e1=>aL 9 e1 fun G2 m3=>apK v [vS a] 16 (ck (aa0 [vT c d e f g i j k l m n p q]) (cP (a83 ak1 [vT c d e f g i j k l m n p q] []) (fun G3=>aA G3 fun G4=>aTy G4 fun m4 m5 m6 m7 m8 m9 n0 n1 n2 n3 n4 n5 n6=>(apK m3 [vT m4 m5 m6 m7 m8 m9 n0 n1 n2 n3 n4 n5 n6] 152 (ck (!G2) (wrO a9 r 0 [(vL (c0||![vS a].isEmpty) 1 (v++[vS a]),true)] fun K3=>wrO K3 s 0 [(vL true 9 (m3++[vT m4 m5 m6 m7 m8 m9 n0 n1 n2 n3 n4 n5 n6]),true)] fun K4=>retR [] K4)))) fun _=>none))) fun e1 K5=>aL 9 e1 fun K6 n7=>apK v [vS a] 16 (ck (aa0 [vT c d e f g i j k l m n p q]) (cP (a83 ak1 [vT c d e f g i j k l m n p q] []) (fun K7=>aA K7 fun K8=>aTy K8 fun e2 e3 e4 e5 e6 e7 e8 e9 f0 f1 f2 f3 f4=>(apK n7 [vT e2 e3 e4 e5 e6 e7 e8 e9 f0 f1 f2 f3 f4] 152 (wrO K5 r 0 [(vL (c0||![vS a].isEmpty) 1 (v++[vS a]),true)] fun P7=>wrO P7 s 0 [(vL (K6||![vT e2 e3 e4 e5 e6 e7 e8 e9 f0 f1 f2 f3 f4].isEmpty) 9 (n7++[vT e2 e3 e4 e5 e6 e7 e8 e9 f0 f1 f2 f3 f4]),true)] fun P8=>retR [] P8))) fun _=>none))],rdT t s 0 (fun f5=>aL 9 f5 fun n8 c1=>rdT t r 0 (fun f6=>aL 1 f6 fun P9 n9=>apK n9 [vS a] 16 (ck (!P9) (ck (aa0 [vT c d e f g i j k l m n p q]) (cP (a83 ak1 [vT c d e f g i j k l m n p q] []) (fun S0=>aA S0 fun S1=>aTy S1 fun p0 p1 p2 p3 p4 p5 p6 p7 p8 p9 q0 q1 q2=>(apK c1 [vT p0 p1 p2 p3 p4 p5 p6 p7 p8 p9 q0 q1 q2] 152 (ck (!n8) (wrO t r 0 [(vL true 1 (n9++[vS a]),true)] fun a10=>wrO a10 s 0 [(vL true 9 (c1++[vT p0 p1 p2 p3 p4 p5 p6 p7 p8 p9 q0 q1 q2]),true)] fun a11=>retR [] a11)))) fun _=>none)))) fun f6 a12=>aL 1 f6 fun a13 q3=>apK q3 [vS a] 16 (ck (aa0 [vT c d e f g i j k l m n p q]) (cP (a83 ak1 [vT c d e f g i j k l m n p q] []) (fun a14=>aA a14 fun a15=>aTy a15 fun q4 q5 q6 q7 q8 q9 r0 r1 r2 r3 r4 r5 r6=>(apK c1 [vT q4 q5 q6 q7 q8 q9 r0 r1 r2 r3 r4 r5 r6] 152 (ck (!n8) (wrO a12 r 0 [(vL (a13||![vS a].isEmpty) 1 (q3++[vS a]),true)] fun a34=>wrO a34 s 0 [(vL true 9 (c1++[vT q4 q5 q6 q7 q8 q9 r0 r1 r2 r3 r4 r5 r6]),true)] fun a35=>retR [] a35)))) fun _=>none))) fun f5 r7=>aL 9 f5 fun r8 c2=>rdT r7 r 0 (fun f7=>aL 1 f7 fun a36 r9=>apK r9 [vS a] 16 (ck (!a36) (ck (aa0 [vT c d e f g i j k l m n p q]) (cP (a83 ak1 [vT c d e f g i j k l m n p q] []) (fun a37=>aA a37 fun a38=>aTy a38 fun f8 f9 g0 g1 g2 g3 g4 g5 g6 g7 g8 g9 j0=>(apK c2 [vT f8 f9 g0 g1 g2 g3 g4 g5 g6 g7 g8 g9 j0] 152 (wrO r7 r 0 [(vL true 1 (r9++[vS a]),true)] fun a57=>wrO a57 s 0 [(vL (r8||![vT f8 f9 g0 g1 g2 g3 g4 g5 g6 g7 g8 g9 j0].isEmpty) 9 (c2++[vT f8 f9 g0 g1 g2 g3 g4 g5 g6 g7 g8 g9 j0]),true)] fun a58=>retR [] a58))) fun _=>none)))) fun f7 a59=>aL 1 f7 fun a60 s0=>apK s0 [vS a] 16 (ck (aa0 [vT c d e f g i j k l m n p q]) (cP (a83 ak1 [vT c d e f g i j k l m n p q] []) (fun a61=>aA a61 fun a62=>aTy a62 fun j1 j2 j3 j4 j5 j6 j7 j8 j9 k0 k1 k2 k3=>(apK c2 [vT j1 j2 j3 j4 j5 j6 j7 j8 j9 k0 k1 k2 k3] 152 (wrO a59 r 0 [(vL (a60||![vS a].isEmpty) 1 (s0++[vS a]),true)] fun a81=>wrO a81 s 0 [(vL (r8||![vT j1 j2 j3 j4 j5 j6 j7 j8 j9 k0 k1 k2 k3].isEmpty) 9 (c2++[vT j1 j2 j3 j4 j5 j6 j7 j8 j9 k0 k1 k2 k3]),true)] fun a82=>retR [] a82))) fun _=>none))]
theorem b_eq:ac7 Z 58 [vS a,vT c d e f g i j k l m n p q,vO r 0,vO s 0] t=b Z.R Z.D a c d e f g i j k l m n p q r s t:=by kernel_rfl
theorem b_of {o}(h:b RZ.R RZ.D a c d e f g i j k l m n p q r s t=some o):RZ.R av5 [vS a,vT c d e f g i j k l m n p q,vO r 0,vO s 0] t=some o:=ab7 ((b_eq RZ ..).trans h)
end
end aM7
namespace ay7
section
variable (a:B)(c:Int)(d e:Y)(f g:Int)(i:B)(j:W)(k:B)(l:W)(m:B)(n:W)(p:B)(q r s t u:W)(v:Lo)(w x:Nat)(y:Int)(z A:Y)(C E:Int)(F:B)(G:W)(H:B)(K:W)(L:B)(M:W)(P:B)(S:W)(T:Lo)
def J0P:List Nat:=[0,1]
def J0F:St:=⟨mkT 25 [(3,V.loc 0 0,.no),(4,V.loc 1 0,.no),(6,vB a,.no)],mkA 2 [(0,[(vI c,.no),(vS d,.no),(vS e,.no),(vI f,.no),(vI g,.no),(vL i 1 j,.no),(vL k 9 l,.no),(vL m 1 n,.no),(vL p 3 q,.no)]),(1,[(vI 0,.no),(vS (⟨#[]⟩:ByteArray),.no),(vS (⟨#[]⟩:ByteArray),.no),(vI 0,.no),(vI 0,.no),(vL false 1 r,.full),(vL false 9 s,.full),(vL false 1 t,.full),(vL false 3 u,.full)])],0,[],v,[]⟩
def J0:=Z.X 70 .body J0P (J0F a c d e f g i j k l m n p q r s t u v)
def b:Q->D->Th4->Th5:=fun _ _ a _ _ y z A C E F G H K L M P S T=>bif (decide (C>=0)) then bif (decide (C<=1000)) then a ((K.length:Int)==z1) y z A C E F G H K L M P S [] [] [] [] T else a false y z A C E F G H K L M P S [] [] [] [] T else a false y z A C E F G H K L M P S [] [] [] [] T
theorem b_eq:ac7 Z 70 [vO w x,vT y z A C E F G H K L M P S] T=b Z.R Z.D (J0 Z) w x y z A C E F G H K L M P S T:=by kernel_rfl
def J0b:Q->D->Th4:=fun _ _ a c d e _ g i j _ _ m n p q _ _ _ _ v=>retR [vT c d e 0 g i j false [] m n p q,vB a] v
theorem ab9:ac5 Z 70 .body J0P (J0F a c d e f g i j k l m n p q r s t u v)=J0b Z.R Z.D a c d e f g i j k l m n p q r s t u v:=by kernel_rfl
theorem b_of {o}(h:b RZ.R RZ.D (J0 RZ) w x y z A C E F G H K L M P S T=some o):RZ.R i_kind_rules_7 [vO w x,vT y z A C E F G H K L M P S] T=some o:=ab7 ((b_eq RZ ..).trans h)
theorem ad0 {o}(h:J0b RZ.R RZ.D a c d e f g i j k l m n p q r s t u v=some o):J0 RZ a c d e f g i j k l m n p q r s t u v=some o:=aa9 (by kernel_rfl) ((ab9 RZ ..).trans h)
end
end ay7
namespace aw7
section
variable (a:B)(c:Int)(d e:Y)(f g:Int)(i:B)(j:W)(k:B)(l:W)(m:B)(n:W)(p:B)(q r s t u:W)(v:Lo)(w x:Nat)(y:Int)(z A:Y)(C E:Int)(F:B)(G:W)(H:B)(K:W)(L:B)(M:W)(P:B)(S:W)(T:Lo)
def J0P:List Nat:=[0,1]
def J0F:St:=⟨mkT 29 [(3,V.loc 0 0,.no),(4,V.loc 1 0,.no),(6,vB a,.no)],mkA 2 [(0,[(vI c,.no),(vS d,.no),(vS e,.no),(vI f,.no),(vI g,.no),(vL i 1 j,.no),(vL k 9 l,.no),(vL m 1 n,.no),(vL p 3 q,.no)]),(1,[(vI 0,.no),(vS (⟨#[]⟩:ByteArray),.no),(vS (⟨#[]⟩:ByteArray),.no),(vI 0,.no),(vI 0,.no),(vL false 1 r,.full),(vL false 9 s,.full),(vL false 1 t,.full),(vL false 3 u,.full)])],0,[],v,[]⟩
def J0:=Z.X 74 .body J0P (J0F a c d e f g i j k l m n p q r s t u v)
def b:Q->D->Th4->Th5:=fun m _ l _ _ y z A C E F G H K L M P S T=>cP (m at7 [vS A] []) (fun a=>aB a fun c=>bif c then ck (aa0 [vL F 1 G,vI (K.length:Int),vI 0]) (cP (m an5 [vL F 1 G,vI (K.length:Int),vI 0] []) (fun d=>aB d fun e=>bif e then ck (aa0 [vT y z A C E F G H K L M P S]) (cP (m aV0 [vT y z A C E F G H K L M P S] []) (fun f=>aB f fun g=>l g y z A C E F G H K L M P S [] [] [] [] T) fun i=>panK i T) else l false y z A C E F G H K L M P S [] [] [] [] T) fun j=>panK j T) else l false y z A C E F G H K L M P S [] [] [] [] T) fun k=>panK k T
theorem b_eq:ac7 Z 74 [vO w x,vT y z A C E F G H K L M P S] T=b Z.R Z.D (J0 Z) w x y z A C E F G H K L M P S T:=by kernel_rfl
def J0b:Q->D->Th4:=fun _ _ a c _ _ f g _ _ _ _ m n _ _ _ _ _ _ v=>retR [vT c (⟨#[]⟩:ByteArray) (⟨#[]⟩:ByteArray) f g false [] false [] m n false [],vB a] v
theorem ab9:ac5 Z 74 .body J0P (J0F a c d e f g i j k l m n p q r s t u v)=J0b Z.R Z.D a c d e f g i j k l m n p q r s t u v:=by kernel_rfl
theorem b_of {o}(h:b RZ.R RZ.D (J0 RZ) w x y z A C E F G H K L M P S T=some o):RZ.R bC4 [vO w x,vT y z A C E F G H K L M P S] T=some o:=ab7 ((b_eq RZ ..).trans h)
theorem ad0 {o}(h:J0b RZ.R RZ.D a c d e f g i j k l m n p q r s t u v=some o):J0 RZ a c d e f g i j k l m n p q r s t u v=some o:=aa9 (by kernel_rfl) ((ab9 RZ ..).trans h)
end
end aw7
namespace am6
section
variable (a:B)(c:W)
def b:Q->D->B->W->R:=fun _ _ a c=>bif (!a) then retR [vL false 3 []] [] else apK [] c 32 (retR [vL true 3 ([]++c)] [])
theorem b_eq:ac7 Z 96 [vL a 3 c] []=b Z.R Z.D a c:=by kernel_rfl
theorem b_of {o}(h:b RZ.R RZ.D a c=some o):RZ.R ak8 [vL a 3 c] []=some o:=ab7 ((b_eq RZ ..).trans h)
end
end am6
end
end Go.Proofs.YtflhfchgdpbhcaaGreat.E
