/- It is proved of functions that StubTypes reaches what their evaluation is, in plain words. No condition. -/
import Derived.Test.YtflhfchgdpbhcaaGreatLH
set_option maxRecDepth 100000
set_option maxHeartbeats 40000
namespace Go.Proofs.YtflhfchgdpbhcaaGreat.E
open Go
noncomputable section
abbrev Tl0:=Y->B->Int->Y->Y->Int->Int->B->W->B->W->B->W->B->W->B->W->B->W->W->W->W->W->B->W->B->W->W->W->R
abbrev Tl1:=B->W->Int->Int->W->W->W->W->B->W->B->W->W->W->R
abbrev Tl2:=Int->Y->Y->Int->Int->B->W->B->W->B->W->B->W->R
abbrev Tl3:=B->Int->Y->Y->Int->Int->B->W->B->W->B->W->B->W->W->W->W->W->Lo->R
abbrev Tl4:=V->W->B->W->Int->Int->Int->Y->Y->Int->Int->B->W->B->W->B->W->B->W->W->W->W->W->Lo->R
abbrev Tl5:=B->W->B->W->Int->Int->Int->Y->Y->Int->Int->B->W->W->B->W->B->W->W->W->W->W->Lo->R
abbrev Tl6:=B->W->B->W->Int->Int->R
abbrev Tl7:=Int->Int->Y->Y->Int->Int->B->W->B->W->B->W->B->W->Int->B->R
abbrev Tl8:=Int->Y->Y->Int->Int->B->W->B->W->B->W->B->W->B->Int->B->R
variable (Z:Env)
namespace af1
section
variable (x:Y)(y d:B)(e:W)(a:Int)(z A:Y)(C E f:Int)(g i j k:W)(l:B)(m:W)(n:B)(p:W)(F:Y)(G:B)(H:Int)(K L:Y)(M P:Int)(q:B)(S T:W)(r:B)(X a0:W)(s:B)(a1 c:W)(t:B)(a2 a3:W)(u:B)(a4 a5:W)(v:B)(a6 a7 a8 a9 c0 c1:W)(c2:B)(c3:W)(c4:B)(c5 c6 c7 w:W)
def J0P:List Nat:=[1,0,1,1]
def J0F:St:=⟨mkT 56 [(1,vR [vS x,vB y,vI a,vS z,vS A,vI C,vI E,vL q 1 T,vL r 9 a0,vL s 1 c,vL t 3 a3,vL u 11 a5,vL v 9 a7],.no),(2,V.loc 0 0,.no),(3,V.loc 1 0,.no)],mkA 3 [(0,[(vI 0,.no),(vS (⟨#[]⟩:ByteArray),.no),(vS (⟨#[]⟩:ByteArray),.no),(vI 0,.no),(vI 0,.no),(vL false 1 a8,.full),(vL false 9 a9,.full),(vL false 1 c0,.full),(vL false 3 c1,.full)]),(1,[(vI 10,.no),(vS (⟨#[97,110,115,119,101,114]⟩:ByteArray),.no),(vS (⟨#[65,110,115,119,101,114]⟩:ByteArray),.no),(vI 0,.no),(vI 0,.no),(vL c2 1 c3,.tok 0),(vL c4 9 c5,.tok 1),(vL false 1 c6,.full),(vL false 3 c7,.full)])],2,[0,1],[],[]⟩
def J0:=Z.X 19 .body J0P (J0F x y a z A C E q T r a0 s c t a3 u a5 v a7 a8 a9 c0 c1 c2 c3 c4 c5 c6 c7)
def L1P:List Nat:=[0,1,0,1,1,1]
def L1F:St:=⟨mkT 56 [(2,V.loc 0 0,.no),(3,V.loc 1 0,.no),(25,vL d 11 e,.no),(26,vI a,.no),(27,vI f,.no)],mkA 3 [(0,[(vI 0,.no),(vS (⟨#[]⟩:ByteArray),.no),(vS (⟨#[]⟩:ByteArray),.no),(vI 0,.no),(vI 0,.no),(vL false 1 g,.full),(vL false 9 i,.full),(vL false 1 j,.full),(vL false 3 k,.full)]),(1,[(vI 10,.no),(vS (⟨#[97,110,115,119,101,114]⟩:ByteArray),.no),(vS (⟨#[65,110,115,119,101,114]⟩:ByteArray),.no),(vI 0,.no),(vI 0,.no),(vL l 1 m,.tok 0),(vL n 9 p,.tok 1),(vL false 1 c,.full),(vL false 3 w,.full)])],2,[0,1],[],[]⟩
def L1:=Z.X 19 .body L1P (L1F d e a f g i j k l m n p c w)
def J2P:List Nat:=[1,1,0,0,1,1,0,0,1,0,1,1,1]
def J2F:St:=⟨mkT 56 [(2,V.loc 0 0,.no),(3,V.loc 1 0,.no),(25,vL d 11 e,.no),(26,vI a,.no),(27,vI f,.no)],mkA 3 [(0,[(vI 0,.no),(vS (⟨#[]⟩:ByteArray),.no),(vS (⟨#[]⟩:ByteArray),.no),(vI 0,.no),(vI 0,.no),(vL false 1 g,.full),(vL false 9 i,.full),(vL false 1 j,.full),(vL false 3 k,.full)]),(1,[(vI 10,.no),(vS (⟨#[97,110,115,119,101,114]⟩:ByteArray),.no),(vS (⟨#[65,110,115,119,101,114]⟩:ByteArray),.no),(vI 0,.no),(vI 0,.no),(vL l 1 m,.tok 0),(vL n 9 p,.tok 1),(vL false 1 c,.full),(vL false 3 w,.full)])],2,[0,1],[],[]⟩
def J2:=Z.X 19 .body J2P (J2F d e a f g i j k l m n p c w)
def b:Q->D->Tl0->Y->B->Int->Y->Y->Int->Int->B->W->B->W->B->W->B->W->B->W->B->W->R:=fun c7 _ c6 F G H K L M P q S r X s a1 t a2 u a4 v a6=>bif (H !=z0) then apK [] [vS (⟨#[118,111,105,100]⟩:ByteArray)] 16 (ck (aa0 [vT H K L M P q S r X s a1 t a2]) (cP (c7 ar6 [vT H K L M P q S r X s a1 t a2] []) (fun w=>aA w fun x=>aTy x fun a c d e f g i j k l m n p=>(apK [] [vT a c d e f g i j k l m n p] 152 (c6 F G H K L M P q S r X s a1 t a2 u a4 v a6 [] [] [] [] true ([]++[vS (⟨#[118,111,105,100]⟩:ByteArray)]) true ([]++[vT a c d e f g i j k l m n p]) [] []))) fun _=>none)) else c6 F G H K L M P q S r X s a1 t a2 u a4 v a6 [] [] [] [] false [] false [] [] []
theorem b_eq:ac7 Z 19 [vA [vS F,vB G,vI H,vS K,vS L,vI M,vI P,vL q 1 S,vL r 9 X,vL s 1 a1,vL t 3 a2,vL u 11 a4,vL v 9 a6]] []=b Z.R Z.D (J0 Z) F G H K L M P q S r X s a1 t a2 u a4 v a6:=by kernel_rfl
def J0b:Q->D->Tl1->Tl0:=fun _ _ d _ _ _ _ _ _ _ _ _ _ _ _ _ _ _ u a5 _ _ a8 a9 c0 c1 c2 c3 c4 c5 c6 c7=>d u a5 (a5.length:Int) z0 a8 a9 c0 c1 c2 c3 c4 c5 c6 c7
theorem ab9:ac5 Z 19 .body J0P (J0F x y a z A C E q T r a0 s c t a3 u a5 v a7 a8 a9 c0 c1 c2 c3 c4 c5 c6 c7)=J0b Z.R Z.D (L1 Z) x y a z A C E q T r a0 s c t a3 u a5 v a7 a8 a9 c0 c1 c2 c3 c4 c5 c6 c7:=by kernel_rfl
def L1b:Q->D->Tl1->Tl1:=fun g0 _ f9 d e a f g i j k l m n p c w=>bif (decide (f<a)) then idxK e f fun a5=>aC (V.cells a5) fun a6 a7=>aS a6 fun q=>aC a7 fun a8 a9=>aI a8 fun c0=>aTy a9 fun H K L M P S T X a0 a1 a2 a3 a4=>(bif (c0 !=z1) then apK m [vS q] 16 (ck (aa0 [vT H K L M P S T X a0 a1 a2 a3 a4]) (cP (g0 ar6 [vT H K L M P S T X a0 a1 a2 a3 a4] []) (fun d9=>aA d9 fun e0=>aTy e0 fun r s t u v x y z A C E F G=>(apK p [vT r s t u v x y z A C E F G] 152 (f9 d e a f g i j k (l||![vS q].isEmpty) (m++[vS q]) (n||![vT r s t u v x y z A C E F G].isEmpty) (p++[vT r s t u v x y z A C E F G]) c w))) fun _=>none)) else f9 d e a f g i j k l m n p c w) else bif ((p.length:Int)==z0) then retR [vT 0 (⟨#[]⟩:ByteArray) (⟨#[]⟩:ByteArray) 0 0 false [] false [] false [] false []] [] else retR [vA [vI 10,vS (⟨#[97,110,115,119,101,114]⟩:ByteArray),vS (⟨#[65,110,115,119,101,114]⟩:ByteArray),vI 0,vI 0,vL l 1 m,vL n 9 p,vL false 1 c,vL false 3 w]] []
theorem ak9:ae4 Z 19 .body L1P (L1F d e a f g i j k l m n p c w)=L1b Z.R Z.D (J2 Z) d e a f g i j k l m n p c w:=by kernel_rfl
def J2b:Q->D->Tl1->Tl1:=fun _ _ q d e a f g i j k l m n p c w=>q d e a (w6 (f+z1)) g i j k l m n p c w
theorem ah0:ac5 Z 19 .body J2P (J2F d e a f g i j k l m n p c w)=J2b Z.R Z.D (L1 Z) d e a f g i j k l m n p c w:=by kernel_rfl
theorem b_of {o}(h:b RZ.R RZ.D (J0 RZ) F G H K L M P q S r X s a1 t a2 u a4 v a6=some o):RZ.R aN2 [vA [vS F,vB G,vI H,vS K,vS L,vI M,vI P,vL q 1 S,vL r 9 X,vL s 1 a1,vL t 3 a2,vL u 11 a4,vL v 9 a6]] []=some o:=ab7 ((b_eq RZ ..).trans h)
theorem ad0 {o}(h:J0b RZ.R RZ.D (L1 RZ) x y a z A C E q T r a0 s c t a3 u a5 v a7 a8 a9 c0 c1 c2 c3 c4 c5 c6 c7=some o):J0 RZ x y a z A C E q T r a0 s c t a3 u a5 v a7 a8 a9 c0 c1 c2 c3 c4 c5 c6 c7=some o:=aa9 (by kernel_rfl) ((ab9 RZ ..).trans h)
theorem ak4 {o}(h:L1b RZ.R RZ.D (J2 RZ) d e a f g i j k l m n p c w=some o):L1 RZ d e a f g i j k l m n p c w=some o:=ac9 ((ak9 RZ ..).trans h)
theorem ak5 {o}(h:J2b RZ.R RZ.D (L1 RZ) d e a f g i j k l m n p c w=some o):J2 RZ d e a f g i j k l m n p c w=some o:=aa9 (by kernel_rfl) ((ah0 RZ ..).trans h)
end
end af1
namespace aM9
section
variable (a:Y)(c d:Int)(e f:Y)(g i:Int)(j:B)(k:W)(l:B)(m:W)(n:B)(p:W)(q:B)(r:W)(s:Nat)(t:Lo)
def b:Q->D->Y->Int->Int->Y->Y->Int->Int->B->W->B->W->B->W->B->W->Nat->Lo->R:=fun _ _ a _ _ _ _ _ _ _ _ _ _ _ _ _ _ s t=>rd1 t s 0 fun u=>aS u fun v=>retR [vB (a.toList==v.toList)] t
theorem b_eq:ac7 Z 23 [vA [vS a,vI c,vI d,vS e,vS f,vI g,vI i,vL j 1 k,vL l 9 m,vL n 1 p,vL q 3 r],vO s 0] t=b Z.R Z.D a c d e f g i j k l m n p q r s t:=by kernel_rfl
theorem b_of {o}(h:b RZ.R RZ.D a c d e f g i j k l m n p q r s t=some o):RZ.R bx1 [vA [vS a,vI c,vI d,vS e,vS f,vI g,vI i,vL j 1 k,vL l 9 m,vL n 1 p,vL q 3 r],vO s 0] t=some o:=ab7 ((b_eq RZ ..).trans h)
end
end aM9
namespace aK8
section
variable (a:B)(c:Int)
def J0P:List Nat:=[0,1]
def J0F:St:=⟨mkT 9 [(2,vB a,.no)],mkA 0 [],0,[],[],[]⟩
def J0:=Z.X 37 .body J0P (J0F a)
def b:Q->D->(B->R)->Int->R:=fun _ _ a c=>bif (decide (c>=48)) then a (decide (c<=57)) else a false
theorem b_eq:ac7 Z 37 [vU c] []=b Z.R Z.D (J0 Z) c:=by kernel_rfl
def J0b:Q->D->B->R:=fun _ _ a=>retR [vB a] []
theorem ab9:ac5 Z 37 .body J0P (J0F a)=J0b Z.R Z.D a:=by kernel_rfl
theorem b_of {o}(h:b RZ.R RZ.D (J0 RZ) c=some o):RZ.R aU9 [vU c] []=some o:=ab7 ((b_eq RZ ..).trans h)
theorem ad0 {o}(h:J0b RZ.R RZ.D a=some o):J0 RZ a=some o:=aa9 (by kernel_rfl) ((ab9 RZ ..).trans h)
end
end aK8
namespace bj2
section
variable (a:Int)(c d:Y)(e f:Int)(g:B)(i:W)(j:B)(k:W)(l:B)(m:W)(n:B)(p:W)
def b:Q->D->Tl2:=fun c1 _ a c d e f g i j k l m n p=>cS (c1 aD3 [vT a c d e f g i j k l m n p,V.func (.func 83) [] []] []) (fun q r=>aA q fun s=>aTy s fun v y C G L S T a1 a2 a5 a6 a9 c0=>(retR [vT v y C G L S T a1 a2 a5 a6 a9 c0] r)) panK
theorem b_eq:ac7 Z 59 [vT a c d e f g i j k l m n p] []=b Z.R Z.D a c d e f g i j k l m n p:=by kernel_rfl
theorem b_of {o}(h:b RZ.R RZ.D a c d e f g i j k l m n p=some o):RZ.R ak1 [vT a c d e f g i j k l m n p] []=some o:=ab7 ((b_eq RZ ..).trans h)
end
end bj2
namespace au2
section
variable (a:B)(c:Int)(d e:Y)(f g:Int)(i:B)(j:W)(k:B)(l:W)(m:B)(n:W)(p:B)(q r s t u:W)(v:Lo)(w x:Nat)(y:Int)(z A:Y)(C E:Int)(F:B)(G:W)(H:B)(K:W)(L:B)(M:W)(P:B)(S:W)(T:Int)(X:Lo)
def J0P:List Nat:=[0,1]
def J0F:St:=⟨mkT 25 [(4,V.loc 0 0,.no),(5,V.loc 1 0,.no),(7,vB a,.no)],mkA 2 [(0,[(vI c,.no),(vS d,.no),(vS e,.no),(vI f,.no),(vI g,.no),(vL i 1 j,.no),(vL k 9 l,.no),(vL m 1 n,.no),(vL p 3 q,.no)]),(1,[(vI 0,.no),(vS (⟨#[]⟩:ByteArray),.no),(vS (⟨#[]⟩:ByteArray),.no),(vI 0,.no),(vI 0,.no),(vL false 1 r,.full),(vL false 9 s,.full),(vL false 1 t,.full),(vL false 3 u,.full)])],0,[],v,[]⟩
def J0:=Z.X 62 .body J0P (J0F a c d e f g i j k l m n p q r s t u v)
def b:Q->D->Tl3->Nat->Nat->Int->Y->Y->Int->Int->B->W->B->W->B->W->B->W->Int->Lo->R:=fun j _ i _ _ y z A C E F G H K L M P S T X=>ck (aa0 [vT y z A C E F G H K L M P S]) (cP (j ar7 [vT y z A C E F G H K L M P S] []) (fun a=>aB a fun c=>bif c then ck (aa0 [vL F 1 G,vI (K.length:Int),vI T]) (cP (j an5 [vL F 1 G,vI (K.length:Int),vI T] []) (fun d=>aB d fun e=>i e y z A C E F G H K L M P S [] [] [] [] X) fun f=>panK f X) else i false y z A C E F G H K L M P S [] [] [] [] X) fun g=>panK g X)
theorem b_eq:ac7 Z 62 [vO w x,vT y z A C E F G H K L M P S,vR [vI T]] X=b Z.R Z.D (J0 Z) w x y z A C E F G H K L M P S T X:=by kernel_rfl
def J0b:Q->D->Tl3:=fun _ _ a c _ _ f g _ _ _ _ m n p q _ _ _ _ v=>retR [vT c (⟨#[]⟩:ByteArray) (⟨#[]⟩:ByteArray) f g false [] false [] m n p q,vB a] v
theorem ab9:ac5 Z 62 .body J0P (J0F a c d e f g i j k l m n p q r s t u v)=J0b Z.R Z.D a c d e f g i j k l m n p q r s t u v:=by kernel_rfl
theorem b_of {o}(h:b RZ.R RZ.D (J0 RZ) w x y z A C E F G H K L M P S T X=some o):RZ.R bx2 [vO w x,vT y z A C E F G H K L M P S,vR [vI T]] X=some o:=ab7 ((b_eq RZ ..).trans h)
theorem ad0 {o}(h:J0b RZ.R RZ.D a c d e f g i j k l m n p q r s t u v=some o):J0 RZ a c d e f g i j k l m n p q r s t u v=some o:=aa9 (by kernel_rfl) ((ab9 RZ ..).trans h)
end
end au2
namespace az1
section
variable (a:B)(c:Int)(d e:Y)(f g:Int)(i:B)(j:W)(k:B)(l:W)(m:B)(n:W)(p:B)(q r s t u:W)(v:Lo)(w x:Nat)(y:Int)(z A:Y)(C E:Int)(F:B)(G:W)(H:B)(K:W)(L:B)(M:W)(P:B)(S:W)(T:Lo)
def J0P:List Nat:=[0,1]
def J0F:St:=⟨mkT 18 [(3,V.loc 0 0,.no),(4,V.loc 1 0,.no),(6,vB a,.no)],mkA 2 [(0,[(vI c,.no),(vS d,.no),(vS e,.no),(vI f,.no),(vI g,.no),(vL i 1 j,.no),(vL k 9 l,.no),(vL m 1 n,.no),(vL p 3 q,.no)]),(1,[(vI 0,.no),(vS (⟨#[]⟩:ByteArray),.no),(vS (⟨#[]⟩:ByteArray),.no),(vI 0,.no),(vI 0,.no),(vL false 1 r,.full),(vL false 9 s,.full),(vL false 1 t,.full),(vL false 3 u,.full)])],0,[],v,[]⟩
def J0:=Z.X 65 .body J0P (J0F a c d e f g i j k l m n p q r s t u v)
def b:Q->D->Tl3->Nat->Nat->Int->Y->Y->Int->Int->B->W->B->W->B->W->B->W->Lo->R:=fun _ _ a _ _ y z A C E F G H K L M P S T=>bif (decide (C>=0)) then a (decide (C<=1000)) y z A C E F G H K L M P S [] [] [] [] T else a false y z A C E F G H K L M P S [] [] [] [] T
theorem b_eq:ac7 Z 65 [vO w x,vT y z A C E F G H K L M P S] T=b Z.R Z.D (J0 Z) w x y z A C E F G H K L M P S T:=by kernel_rfl
def J0b:Q->D->Tl3:=fun _ _ a c d e _ g i j k l m n p q _ _ _ _ v=>retR [vT c d e 0 g i j k l m n p q,vB a] v
theorem ab9:ac5 Z 65 .body J0P (J0F a c d e f g i j k l m n p q r s t u v)=J0b Z.R Z.D a c d e f g i j k l m n p q r s t u v:=by kernel_rfl
theorem b_of {o}(h:b RZ.R RZ.D (J0 RZ) w x y z A C E F G H K L M P S T=some o):RZ.R i_kind_rules_3 [vO w x,vT y z A C E F G H K L M P S] T=some o:=ab7 ((b_eq RZ ..).trans h)
theorem ad0 {o}(h:J0b RZ.R RZ.D a c d e f g i j k l m n p q r s t u v=some o):J0 RZ a c d e f g i j k l m n p q r s t u v=some o:=aa9 (by kernel_rfl) ((ab9 RZ ..).trans h)
end
end az1
namespace ah8
section
variable (t:V)(u:B)(c:W)(d:B)(e:W)(f g i:Int)(j k:Y)(l m v:Int)(w x:Y)(y z:Int)(A:B)(C:W)(E:B)(F:W)(G:B)(H:W)(a:B)(K:W)(L:V)(M:Lo)(n:W)(P:B)(S:W)(T:B)(X:W)(a0:B)(a1:W)(a2:B)(a3:W)(a4:B)(a5 p q r s:W)(a6:Lo)(a7:W)(a8:Lo)
def L0P:List Nat:=[0,1,0,1,1,1,1]
def L0F:St:=⟨mkT 58 [(1,t,.no),(2,V.loc 0 0,.no),(4,V.loc 1 0,.no),(5,vL true 9 c,.tok 0),(27,vL d 9 e,.no),(28,vI f,.no),(29,vI g,.no)],mkA 3 [(0,[(vI i,.no),(vS j,.no),(vS k,.no),(vI l,.no),(vI m,.no),(vL a 1 n,.no),(vL P 9 S,.no),(vL T 1 X,.no),(vL a0 3 p,.no)]),(1,[(vI 0,.no),(vS (⟨#[]⟩:ByteArray),.no),(vS (⟨#[]⟩:ByteArray),.no),(vI 0,.no),(vI 0,.no),(vL false 1 q,.full),(vL false 9 r,.full),(vL false 1 s,.full),(vL false 3 a7,.full)])],1,[0],a8,[]⟩
def L0:=Z.X 82 .body L0P (L0F t c d e f g i j k l m a n P S T X a0 p q r s a7 a8)
def L1P:List Nat:=[0,1,0,1,1,1,1,1,1,1]
def L1F:St:=⟨mkT 58 [(2,V.loc 0 0,.no),(4,V.loc 1 0,.no),(8,vL u 1 c,.tok 0),(43,vL d 1 e,.no),(44,vI f,.no),(45,vI g,.no)],mkA 3 [(0,[(vI i,.no),(vS j,.no),(vS k,.no),(vI l,.no),(vI m,.no),(vL a 1 n,.no),(vL true 9 a1,.tok 1),(vL a2 1 a3,.no),(vL a4 3 a5,.no)]),(1,[(vI 0,.no),(vS (⟨#[]⟩:ByteArray),.no),(vS (⟨#[]⟩:ByteArray),.no),(vI 0,.no),(vI 0,.no),(vL false 1 p,.full),(vL false 9 q,.full),(vL false 1 r,.full),(vL false 3 s,.full)])],2,[0,1],a6,[]⟩
def L1:=Z.X 82 .body L1P (L1F u c d e f g i j k l m a n a1 a2 a3 a4 a5 p q r s a6)
def b:Q->D->Tl4->Int->Y->Y->Int->Int->B->W->B->W->B->W->B->W->V->Lo->R:=fun d0 _ c9 v w x y z A C E F G H a K L M=>aV9 d0 L [vT v w x y z A C E F G H a K] M (fun j k=>aA j fun l=>aTy l fun p s P X a2 d e f c a9 c0 g i=>(ck (aa0 [vL d 1 e]) (cP (d0 an9 [vL d 1 e] []) (fun c3=>aL 1 c3 fun c4 c5=>ck (aa0 [vL g 3 i]) (cP (d0 ak8 [vL g 3 i] []) (fun c6=>aL 3 c6 fun c7 c8=>ck (decide (0<=z0)&&(decide (z0<=(c.length:Int))&&(decide ((c.length:Int)*152<=140737488355328)&&decide ((c.length:Int)<=140737488355328)))) (c9 L (List.replicate z0.toNat (vA [vI 0,vS (⟨#[]⟩:ByteArray),vS (⟨#[]⟩:ByteArray),vI 0,vI 0,vL false 0 [],vL false 0 [],vL false 0 [],vL false 0 []])) f c (c.length:Int) z0 p s P X a2 c4 c5 f c a9 c0 c7 c8 [] [] [] [] k)) fun _=>none)) fun _=>none))) panK
theorem b_eq:ac7 Z 82 [vT v w x y z A C E F G H a K,L] M=b Z.R Z.D (L0 Z) v w x y z A C E F G H a K L M:=by kernel_rfl
def L0b:Q->D->Tl4->Tl5->Tl4:=fun g6 _ g4 g5 t c d e f g i j k l m a n P S T X a0 p q r s a7 a8=>bif (decide (g<f)) then idxK e g fun c4=>aTy (V.cells c4) fun u v w x y z A C E F G H K=>(ck ([vT u v w x y z A C E F G H K,t].all am0) (cS (g6 aD3 [vT u v w x y z A C E F G H K,t] a8) (fun e3 e4=>aA e3 fun e5=>aTy e5 fun L M a1 a2 a3 a4 a5 a6 a9 c0 c1 c2 c3=>(apK c [vT L M a1 a2 a3 a4 a5 a6 a9 c0 c1 c2 c3] 152 (ck (nlB 2 [(t,.no)]) (g4 t (c++[vT L M a1 a2 a3 a4 a5 a6 a9 c0 c1 c2 c3]) d e f (w6 (g+z1)) i j k l m a n P S T X a0 p q r s a7 e4)))) panK)) else g5 false [] T X (X.length:Int) z0 i j k l m a n c T X a0 p q r s a7 a8
theorem ag9:ae4 Z 82 .body L0P (L0F t c d e f g i j k l m a n P S T X a0 p q r s a7 a8)=L0b Z.R Z.D (L0 Z) (L1 Z) t c d e f g i j k l m a n P S T X a0 p q r s a7 a8:=by kernel_rfl
def L1b:Q->D->Tl5->Tl5:=fun G _ F u c d e f g i j k l m a n a1 a2 a3 a4 a5 p q r s a6=>bif (decide (g<f)) then idxK e g fun y=>aC (V.cells y) fun z A=>aL 1 z fun w x=>aN A (ck (aa0 [vL w 1 x]) (cP (G at1 [vL w 1 x] []) (fun C=>aL 1 C fun t v=>apK c [vL t 1 v] 24 (F (u||![vL t 1 v].isEmpty) (c++[vL t 1 v]) d e f (w6 (g+z1)) i j k l m a n a1 a2 a3 a4 a5 p q r s a6)) fun E=>panK E a6)) else retR [vT i j k l m a n true a1 u c a4 a5] a6
theorem ak9:ae4 Z 82 .body L1P (L1F u c d e f g i j k l m a n a1 a2 a3 a4 a5 p q r s a6)=L1b Z.R Z.D (L1 Z) u c d e f g i j k l m a n a1 a2 a3 a4 a5 p q r s a6:=by kernel_rfl
theorem b_of {o}(h:b RZ.R RZ.D (L0 RZ) v w x y z A C E F G H a K L M=some o):RZ.R aD3 [vT v w x y z A C E F G H a K,L] M=some o:=ab7 ((b_eq RZ ..).trans h)
theorem ag6 {o}(h:L0b RZ.R RZ.D (L0 RZ) (L1 RZ) t c d e f g i j k l m a n P S T X a0 p q r s a7 a8=some o):L0 RZ t c d e f g i j k l m a n P S T X a0 p q r s a7 a8=some o:=ac9 ((ag9 RZ ..).trans h)
theorem ak4 {o}(h:L1b RZ.R RZ.D (L1 RZ) u c d e f g i j k l m a n a1 a2 a3 a4 a5 p q r s a6=some o):L1 RZ u c d e f g i j k l m a n a1 a2 a3 a4 a5 p q r s a6=some o:=ac9 ((ak9 RZ ..).trans h)
end
end ah8
namespace ap2
section
variable (a:B)(c:W)(d:B)(e:W)(f g i:Int)(j k:Y)(l m:Int)(n:B)(p:W)(q:B)(r:W)(s:B)(t:W)(u:B)(v:W)
def L0P:List Nat:=[0,1,0,1,1]
def L0F:St:=⟨mkT 18 [(3,vL a 1 c,.tok 0),(7,vL d 1 e,.no),(8,vI f,.no),(9,vI g,.no)],mkA 0 [],1,[0],[],[]⟩
def L0:=Z.X 102 .body L0P (L0F a c d e f g)
def b:Q->D->Tl6->Tl2:=fun _ _ a _ _ _ _ _ _ _ _ _ s t _ _=>a false [] s t (t.length:Int) z0
theorem b_eq:ac7 Z 102 [vT i j k l m n p q r s t u v] []=b Z.R Z.D (L0 Z) i j k l m n p q r s t u v:=by kernel_rfl
def L0b:Q->D->Tl6->Tl6:=fun _ _ m a c d e f g=>bif (decide (g<f)) then idxK e g fun j=>aC (V.cells j) fun k l=>aL 1 k fun _ i=>aN l (apK c i 8 (m (a||!i.isEmpty) (c++i) d e f (w6 (g+z1)))) else retR [vL a 1 c] []
theorem ag9:ae4 Z 102 .body L0P (L0F a c d e f g)=L0b Z.R Z.D (L0 Z) a c d e f g:=by kernel_rfl
theorem b_of {o}(h:b RZ.R RZ.D (L0 RZ) i j k l m n p q r s t u v=some o):RZ.R aA5 [vT i j k l m n p q r s t u v] []=some o:=ab7 ((b_eq RZ ..).trans h)
theorem ag6 {o}(h:L0b RZ.R RZ.D (L0 RZ) a c d e f g=some o):L0 RZ a c d e f g=some o:=ac9 ((ag9 RZ ..).trans h)
end
end ap2
namespace ag7
section
variable (a:B)(c:Int)(m:Y)(n:Int)(d p:Y)(q e r:Int)(s:B)(t:W)(u:B)(v:W)(w:B)(x:W)(y:B)(z:W)(A:Int)(C E:Y)(F G:Int)(f:B)(H K:W)(g:B)(L M:W)(i:B)(P S:W)(j:B)(T:W)(X:Int)(a0:W)(a1:B)(k:Int)(l:B)
def J0P:List Nat:=[0,0,1,0,1,0,1]
def J0F:St:=⟨mkT 53 [(4,vB a,.no)],mkA 0 [],0,[],[],[]⟩
def J0:=Z.X 104 .body J0P (J0F a)
def J1P:List Nat:=[1,0,1,1,0,1,0,1]
def J1F:St:=⟨mkT 53 [(1,vI c,.no),(2,vQ n d p e r s t u v w x y z,.no),(6,vI k,.no),(15,vB l,.no)],mkA 0 [],0,[],[],[]⟩
def J1:=Z.X 104 .body J1P (J1F c n d p e r s t u v w x y z k l)
def J2P:List Nat:=[0,0,1,1,1,0,1,0,1]
def J2F:St:=⟨mkT 53 [(2,vQ c m d q e f K g M i S j a0,.no),(4,vB a1,.no),(6,vI k,.no),(15,vB l,.no)],mkA 0 [],0,[],[],[]⟩
def J2:=Z.X 104 .body J2P (J2F c m d q e f K g M i S j a0 a1 k l)
def J3P:List Nat:=[0,0,1,1,1,1,1,0,1,0,1]
def J3F:St:=⟨mkT 53 [(4,vB a,.no)],mkA 0 [],0,[],[],[]⟩
def J3:=Z.X 104 .body J3P (J3F a)
def J4P:List Nat:=[0,0,1,1,1,1,1,1,1,0,1,0,1]
def J4F:St:=⟨mkT 53 [(4,vB a,.no)],mkA 0 [],0,[],[],[]⟩
def J4:=Z.X 104 .body J4P (J4F a)
def J5P:List Nat:=[0,0,1,1,1,1,1,1,1,1,1,1,1,0,1,0,1]
def J5F:St:=⟨mkT 53 [(4,vB a,.no)],mkA 0 [],0,[],[],[]⟩
def J5:=Z.X 104 .body J5P (J5F a)
def b:Q->D->(B->R)->Tl7->Int->Y->Y->Int->Int->B->W->B->W->B->W->B->W->Int->R:=fun _ _ a c A C E F G f H g L i P j T X=>bif (A==z1) then bif (X==z0) then a true else a (X==z1) else bif (A==(2:Int)) then c X A C E F G f H g L i P j T A (A==(2:Int)) else c X A C E F G f H g L i P j T A (A==(3:Int))
theorem b_eq:ac7 Z 104 [vT A C E F G f H g L i P j T,vI X] []=b Z.R Z.D (J0 Z) (J1 Z) A C E F G f H g L i P j T X:=by kernel_rfl
def J0b:Q->D->B->R:=fun _ _ a=>retR [vB a] []
theorem ab9:ac5 Z 104 .body J0P (J0F a)=J0b Z.R Z.D a:=by kernel_rfl
def J1b:Q->D->Tl8->(B->R)->(B->R)->(B->R)->Tl7:=fun _ _ a f g i c n d p e r s t u v w x y z k l=>bif l then bif (decide (c>=0)) then a n d p e r s t u v w x y z (decide (c<=255)) k l else a n d p e r s t u v w x y z false k l else bif (k==(4:Int)) then bif (decide (c>=(-32768))) then f (decide (c<=32767)) else f false else bif (k==(5:Int)) then bif (decide (c>=(-2147483648))) then g (decide (c<=2147483647)) else g false else bif (k==(6:Int)) then retR [vB true] [] else bif (k==(9:Int)) then bif (decide (c>=0)) then i (decide (c<(t.length:Int))) else i false else retR [vB false] []
theorem ak2:ac5 Z 104 .body J1P (J1F c n d p e r s t u v w x y z k l)=J1b Z.R Z.D (J2 Z) (J3 Z) (J4 Z) (J5 Z) c n d p e r s t u v w x y z k l:=by kernel_rfl
def J2b:Q->D->Tl8:=fun _ _ _ _ _ _ _ _ _ _ _ _ _ _ _ a1 _ _=>retR [vB a1] []
theorem ah0:ac5 Z 104 .body J2P (J2F c m d q e f K g M i S j a0 a1 k l)=J2b Z.R Z.D c m d q e f K g M i S j a0 a1 k l:=by kernel_rfl
def J3b:Q->D->B->R:=fun _ _ a=>retR [vB a] []
theorem aw4:ac5 Z 104 .body J3P (J3F a)=J3b Z.R Z.D a:=by kernel_rfl
def J4b:Q->D->B->R:=fun _ _ a=>retR [vB a] []
theorem aF4:ac5 Z 104 .body J4P (J4F a)=J4b Z.R Z.D a:=by kernel_rfl
def J5b:Q->D->B->R:=fun _ _ a=>retR [vB a] []
theorem aA0:ac5 Z 104 .body J5P (J5F a)=J5b Z.R Z.D a:=by kernel_rfl
theorem b_of {o}(h:b RZ.R RZ.D (J0 RZ) (J1 RZ) A C E F G f H g L i P j T X=some o):RZ.R aU7 [vT A C E F G f H g L i P j T,vI X] []=some o:=ab7 ((b_eq RZ ..).trans h)
theorem ad0 {o}(h:J0b RZ.R RZ.D a=some o):J0 RZ a=some o:=aa9 (by kernel_rfl) ((ab9 RZ ..).trans h)
theorem an7 {o}(h:J1b RZ.R RZ.D (J2 RZ) (J3 RZ) (J4 RZ) (J5 RZ) c n d p e r s t u v w x y z k l=some o):J1 RZ c n d p e r s t u v w x y z k l=some o:=aa9 (by kernel_rfl) ((ak2 RZ ..).trans h)
theorem ak5 {o}(h:J2b RZ.R RZ.D c m d q e f K g M i S j a0 a1 k l=some o):J2 RZ c m d q e f K g M i S j a0 a1 k l=some o:=aa9 (by kernel_rfl) ((ah0 RZ ..).trans h)
theorem aH9 {o}(h:J3b RZ.R RZ.D a=some o):J3 RZ a=some o:=aa9 (by kernel_rfl) ((aw4 RZ ..).trans h)
theorem aS3 {o}(h:J4b RZ.R RZ.D a=some o):J4 RZ a=some o:=aa9 (by kernel_rfl) ((aF4 RZ ..).trans h)
theorem aM6 {o}(h:J5b RZ.R RZ.D a=some o):J5 RZ a=some o:=aa9 (by kernel_rfl) ((aA0 RZ ..).trans h)
end
end ag7
end
end Go.Proofs.YtflhfchgdpbhcaaGreat.E
