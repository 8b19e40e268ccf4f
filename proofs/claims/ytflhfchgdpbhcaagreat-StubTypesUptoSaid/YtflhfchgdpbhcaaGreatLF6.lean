/- It is proved of functions that StubTypes reaches what their evaluation is, in plain words. No condition. -/
import Derived.Test.YtflhfchgdpbhcaaGreatLH
set_option maxRecDepth 100000
set_option maxHeartbeats 40000
namespace Go.Proofs.YtflhfchgdpbhcaaGreat.E
open Go
noncomputable section
abbrev Tg0:=Y->B->Int->Y->Y->Int->Int->B->W->B->W->B->W->B->W->B->W->B->W->B->W->B->W->B->Int->B->R
abbrev Tg1:=Y->B->Int->Y->Y->Int->Int->B->W->B->W->B->W->B->W->B->W->B->W->B->W->B->W->B->Int->B->W->Int->Int->R
abbrev Tg2:=Y->B->Int->Y->Y->Int->Int->B->W->B->W->B->W->B->W->B->W->B->W->B->W->B->W->B->Int->B->W->Int->Int->B->R
abbrev Tg3:=B->W->Int->Int->R
abbrev Tg4:=Int->Y->Y->Int->Int->B->W->B->W->B->W->B->W->R
abbrev Tg5:=B->W->Int->Int->Y->Y->Int->Int->B->W->B->W->B->W->B->W->B->R
abbrev Tg6:=Int->B->W->B->W->Int->Int->R
abbrev Tg7:=B->Int->Y->Y->Int->Int->B->W->B->W->B->W->B->W->W->W->W->W->Lo->R
abbrev Tg8:=Nat->Nat->Int->Y->Y->Int->Int->B->W->B->W->B->W->B->W->Lo->R
abbrev Tg9:=Y->Int->Int->R
variable (Z:Env)
namespace ae3
section
variable (l:Y)(m K:B)(L:W)(a:Int)(n p:Y)(q r M:Int)(P:Y)(S:B)(T:Int)(X a0:Y)(a1 a2:Int)(c:B)(a3 s:W)(d:B)(a4 t:W)(e:B)(a5 u:W)(f:B)(a6 v:W)(g:B)(a7 w:W)(i:B)(a8 x:W)(j:B)(a9 y:W)(k:B)(c0:W)(c1:B)(c2:Int)(z:W)(A:B)(C:Int)(E:B)(F:W)(G H:Int)(c3 c4:B)
def J0P:List Nat:=[0,0,1]
def J0F:St:=⟨mkT 92 [(1,vR [vS l,vB m,vI a,vS n,vS p,vI q,vI r,vL c 1 s,vL d 9 t,vL e 1 u,vL f 3 v,vL g 11 w,vL i 9 x,vL j 9 y,vL k 6 z,vB A,vI C],.no),(47,vB c4,.no)],mkA 3 [],0,[],[],[]⟩
def J0:=Z.X 4 .body J0P (J0F l m a n p q r c s d t e u f v g w i x j y k z A C c4)
def L1P:List Nat:=[0,1,0,1,1]
def L1F:St:=⟨mkT 92 [(1,vR [vS l,vB m,vI a,vS n,vS p,vI q,vI r,vL c 1 s,vL d 9 t,vL e 1 u,vL f 3 v,vL g 11 w,vL i 9 x,vL j 9 y,vL k 6 z,vB A,vI C],.no),(50,vL E 11 F,.no),(51,vI G,.no),(52,vI H,.no)],mkA 3 [],0,[],[],[]⟩
def L1:=Z.X 4 .body L1P (L1F l m a n p q r c s d t e u f v g w i x j y k z A C E F G H)
def J2P:List Nat:=[0,1,0,0,1,1,0,0,1,0,1,1]
def J2F:St:=⟨mkT 92 [(1,vR [vS l,vB m,vI a,vS n,vS p,vI q,vI r,vL c 1 s,vL d 9 t,vL e 1 u,vL f 3 v,vL g 11 w,vL i 9 x,vL j 9 y,vL k 6 z,vB A,vI C],.no),(50,vL E 11 F,.no),(51,vI G,.no),(52,vI H,.no),(66,vB c3,.no)],mkA 3 [],0,[],[],[]⟩
def J2:=Z.X 4 .body J2P (J2F l m a n p q r c s d t e u f v g w i x j y k z A C E F G H c3)
def L3P:List Nat:=[0,1,0,1,1,1]
def L3F:St:=⟨mkT 92 [(1,vR [vS l,vB m,vI a,vS n,vS p,vI q,vI r,vL c 1 s,vL d 9 t,vL e 1 u,vL f 3 v,vL g 11 w,vL i 9 x,vL j 9 y,vL k 6 z,vB A,vI C],.no),(70,vL E 9 F,.no),(71,vI G,.no),(72,vI H,.no)],mkA 3 [],0,[],[],[]⟩
def L3:=Z.X 4 .body L3P (L3F l m a n p q r c s d t e u f v g w i x j y k z A C E F G H)
def L4P:List Nat:=[0,1,0,1,1,1,1]
def L4F:St:=⟨mkT 92 [(82,vL K 6 L,.no),(83,vI a,.no),(84,vI M,.no)],mkA 3 [],0,[],[],[]⟩
def L4:=Z.X 4 .body L4P (L4F K L a M)
def b:Q->D->Tg0->Y->B->Int->Y->Y->Int->Int->B->W->B->W->B->W->B->W->B->W->B->W->B->W->B->W->B->Int->R:=fun s _ r P S T X a0 a1 a2 c a3 d a4 e a5 f a6 g a7 i a8 j a9 k c0 c1 c2=>bif (decide ((a7.length:Int)>30)) then r P S T X a0 a1 a2 c a3 d a4 e a5 f a6 g a7 i a8 j a9 k c0 c1 c2 true else bif (decide ((a8.length:Int)>30)) then r P S T X a0 a1 a2 c a3 d a4 e a5 f a6 g a7 i a8 j a9 k c0 c1 c2 true else bif (decide ((c0.length:Int)>12)) then r P S T X a0 a1 a2 c a3 d a4 e a5 f a6 g a7 i a8 j a9 k c0 c1 c2 true else ck (aa0 [vL true 9 [vT T X a0 a1 a2 c a3 d a4 e a5 f a6]]) (cP (s aq2 [vL true 9 [vT T X a0 a1 a2 c a3 d a4 e a5 f a6]] []) (fun a=>aB a fun l=>bif (!l) then r P S T X a0 a1 a2 c a3 d a4 e a5 f a6 g a7 i a8 j a9 k c0 c1 c2 true else ck (aa0 [vL j 9 a9]) (cP (s aR2 [vL j 9 a9] []) (fun m=>aB m fun n=>bif (!n) then r P S T X a0 a1 a2 c a3 d a4 e a5 f a6 g a7 i a8 j a9 k c0 c1 c2 true else r P S T X a0 a1 a2 c a3 d a4 e a5 f a6 g a7 i a8 j a9 k c0 c1 c2 (decide ((P.size:Int)>100))) fun p=>panK p [])) fun q=>panK q [])
theorem b_eq:ac7 Z 4 [vA [vS P,vB S,vI T,vS X,vS a0,vI a1,vI a2,vL c 1 a3,vL d 9 a4,vL e 1 a5,vL f 3 a6,vL g 11 a7,vL i 9 a8,vL j 9 a9,vL k 6 c0,vB c1,vI c2]] []=b Z.R Z.D (J0 Z) P S T X a0 a1 a2 c a3 d a4 e a5 f a6 g a7 i a8 j a9 k c0 c1 c2:=by kernel_rfl
def J0b:Q->D->Tg1->Tg0:=fun _ _ E l m a n p q r c s d t e u f v g w i x j y k z A C c4=>bif c4 then retR [vB false] [] else E l m a n p q r c s d t e u f v g w i x j y k z A C g w (w.length:Int) z0
theorem ab9:ac5 Z 4 .body J0P (J0F l m a n p q r c s d t e u f v g w i x j y k z A C c4)=J0b Z.R Z.D (L1 Z) l m a n p q r c s d t e u f v g w i x j y k z A C c4:=by kernel_rfl
def L1b:Q->D->Tg2->Tg1->Tg1:=fun e5 _ e3 e4 l m a n p q r c s d t e u f v g w i x j y k z A C E F G H=>bif (decide (H<G)) then idxK F H fun a6=>aC (V.cells a6) fun a7 a8=>aS a7 fun a9=>aC a8 fun c0 c1=>aI c0 fun _=>aTy c1 fun K L M P S T X a0 a1 a2 a3 a4 a5=>(ck (aa0 [vL true 9 [vT K L M P S T X a0 a1 a2 a3 a4 a5]]) (cP (e5 aq2 [vL true 9 [vT K L M P S T X a0 a1 a2 a3 a4 a5]] []) (fun e0=>aB e0 fun e1=>bif (!e1) then e3 l m a n p q r c s d t e u f v g w i x j y k z A C E F G H true else e3 l m a n p q r c s d t e u f v g w i x j y k z A C E F G H (decide ((a9.size:Int)>100))) fun e2=>panK e2 [])) else e4 l m a n p q r c s d t e u f v g w i x j y k z A C i x (x.length:Int) z0
theorem ak9:ae4 Z 4 .body L1P (L1F l m a n p q r c s d t e u f v g w i x j y k z A C E F G H)=L1b Z.R Z.D (J2 Z) (L3 Z) l m a n p q r c s d t e u f v g w i x j y k z A C E F G H:=by kernel_rfl
def J2b:Q->D->Tg1->Tg2:=fun _ _ K l m a n p q r c s d t e u f v g w i x j y k z A C E F G H c3=>bif c3 then retR [vB false] [] else K l m a n p q r c s d t e u f v g w i x j y k z A C E F G (w6 (H+z1))
theorem ah0:ac5 Z 4 .body J2P (J2F l m a n p q r c s d t e u f v g w i x j y k z A C E F G H c3)=J2b Z.R Z.D (L1 Z) l m a n p q r c s d t e u f v g w i x j y k z A C E F G H c3:=by kernel_rfl
def L3b:Q->D->Tg1->Tg3->Tg1:=fun e0 _ d8 d9 l m a n p q r c s d t e u f v g w i x j y k z A C E F G H=>bif (decide (H<G)) then idxK F H fun a6=>aTy (V.cells a6) fun K L M P S T X a0 a1 a2 a3 a4 a5=>(ck (aa0 [vL true 9 [vT K L M P S T X a0 a1 a2 a3 a4 a5]]) (cP (e0 aq2 [vL true 9 [vT K L M P S T X a0 a1 a2 a3 a4 a5]] []) (fun d5=>aB d5 fun d6=>bif (!d6) then retR [vB false] [] else d8 l m a n p q r c s d t e u f v g w i x j y k z A C E F G (w6 (H+z1))) fun d7=>panK d7 [])) else d9 k z (z.length:Int) z0
theorem aV1:ae4 Z 4 .body L3P (L3F l m a n p q r c s d t e u f v g w i x j y k z A C E F G H)=L3b Z.R Z.D (L3 Z) (L4 Z) l m a n p q r c s d t e u f v g w i x j y k z A C E F G H:=by kernel_rfl
def L4b:Q->D->Tg3->Tg3:=fun G _ F K L a M=>bif (decide (M<a)) then idxK L M fun m=>aC (V.cells m) fun n p=>aI n fun c=>aC p fun q r=>aI q fun d=>aC r fun s t=>aS s fun e=>aC t fun u v=>aL 5 u fun f g=>aC v fun w x=>aL 9 w fun i j=>aC x fun y z=>aL 2 y fun k l=>aN z (ck (aa0 [vA [vI c,vI d,vS e,vL f 5 g,vL i 9 j,vL k 2 l]]) (cP (G i_law04_Light [vA [vI c,vI d,vS e,vL f 5 g,vL i 9 j,vL k 2 l]] []) (fun A=>aB A fun C=>bif (!C) then retR [vB false] [] else F K L a (w6 (M+z1))) fun E=>panK E [])) else retR [vB true] []
theorem aF3:ae4 Z 4 .body L4P (L4F K L a M)=L4b Z.R Z.D (L4 Z) K L a M:=by kernel_rfl
theorem b_of {o}(h:b RZ.R RZ.D (J0 RZ) P S T X a0 a1 a2 c a3 d a4 e a5 f a6 g a7 i a8 j a9 k c0 c1 c2=some o):RZ.R aR1 [vA [vS P,vB S,vI T,vS X,vS a0,vI a1,vI a2,vL c 1 a3,vL d 9 a4,vL e 1 a5,vL f 3 a6,vL g 11 a7,vL i 9 a8,vL j 9 a9,vL k 6 c0,vB c1,vI c2]] []=some o:=ab7 ((b_eq RZ ..).trans h)
theorem ad0 {o}(h:J0b RZ.R RZ.D (L1 RZ) l m a n p q r c s d t e u f v g w i x j y k z A C c4=some o):J0 RZ l m a n p q r c s d t e u f v g w i x j y k z A C c4=some o:=aa9 (by kernel_rfl) ((ab9 RZ ..).trans h)
theorem ak4 {o}(h:L1b RZ.R RZ.D (J2 RZ) (L3 RZ) l m a n p q r c s d t e u f v g w i x j y k z A C E F G H=some o):L1 RZ l m a n p q r c s d t e u f v g w i x j y k z A C E F G H=some o:=ac9 ((ak9 RZ ..).trans h)
theorem ak5 {o}(h:J2b RZ.R RZ.D (L1 RZ) l m a n p q r c s d t e u f v g w i x j y k z A C E F G H c3=some o):J2 RZ l m a n p q r c s d t e u f v g w i x j y k z A C E F G H c3=some o:=aa9 (by kernel_rfl) ((ah0 RZ ..).trans h)
theorem aT4 {o}(h:L3b RZ.R RZ.D (L3 RZ) (L4 RZ) l m a n p q r c s d t e u f v g w i x j y k z A C E F G H=some o):L3 RZ l m a n p q r c s d t e u f v g w i x j y k z A C E F G H=some o:=ac9 ((aV1 RZ ..).trans h)
theorem aE4 {o}(h:L4b RZ.R RZ.D (L4 RZ) K L a M=some o):L4 RZ K L a M=some o:=ac9 ((aF3 RZ ..).trans h)
end
end ae3
namespace aX9
section
variable (a:Int)(c d:Y)(e f:Int)(g:B)(i:W)(j:B)(k:W)(l:B)(m:W)(n:B)(p:W)
def b:Q->D->Tg4:=fun t _ a c d e f g i j k l m n p=>ck (aa0 [vT a c d e f g i j k l m n p]) (cP (t am9 [vT a c d e f g i j k l m n p] []) (fun q=>aB q fun r=>bif (!r) then retR [vT 0 (⟨#[]⟩:ByteArray) (⟨#[]⟩:ByteArray) 0 0 false [] false [] false [] false [],vI 4] [] else retR [vT a c d e f g i j k l m n p,vI 0] []) fun s=>panK s [])
theorem b_eq:ac7 Z 17 [vT a c d e f g i j k l m n p] []=b Z.R Z.D a c d e f g i j k l m n p:=by kernel_rfl
theorem b_of {o}(h:b RZ.R RZ.D a c d e f g i j k l m n p=some o):RZ.R aD1 [vT a c d e f g i j k l m n p] []=some o:=ab7 ((b_eq RZ ..).trans h)
end
end aX9
namespace ae1
section
variable (c:B)(d:W)(e f:Int)(g i:Y)(j:Int)(k:B)(l:W)(m:B)(n:W)(p a q:Int)(r:B)(s:W)(t:B)(u:W)(v:B)(w:W)(x:B)(y:W)(z:B)(A:Int)(C E:Y)(F G:Int)(H:B)(K:W)(L:B)(M:W)(P:B)(S:W)(T:B)(X:W)(a0:B)(a1:W)(a2:Int)
def J0P:List Nat:=[0,0,1]
def J0F:St:=⟨mkT 64 [(1,vL c 3 d,.no),(2,vI e,.no),(3,vQ f g i a q r s t u v w x y,.no),(46,vB z,.no)],mkA 1 [],0,[],[],[]⟩
def J0:=Z.X 44 .body J0P (J0F c d e f g i a q r s t u v w x y z)
def L1P:List Nat:=[0,1,0,1,1,1]
def L1F:St:=⟨mkT 64 [(2,vI j,.no),(7,vL k 3 l,.no),(51,vL m 9 n,.no),(52,vI p,.no),(53,vI a,.no)],mkA 1 [],0,[],[],[]⟩
def L1:=Z.X 44 .body L1P (L1F j k l m n p a)
def b:Q->D->Tg5->Int->Y->Y->Int->Int->B->W->B->W->B->W->B->W->B->W->Int->R:=fun q _ p A C E F G H K L M P S T X a0 a1 a2=>bif (decide (A<0)) then p a0 a1 a2 A C E F G H K L M P S T X true else bif (decide (A>20)) then p a0 a1 a2 A C E F G H K L M P S T X true else bif (decide (a2>16)) then p a0 a1 a2 A C E F G H K L M P S T X true else ck (aa0 [vT A C E F G H K L M P S T X]) (cP (q 55 [vT A C E F G H K L M P S T X] []) (fun a=>aB a fun c=>bif (!c) then p a0 a1 a2 A C E F G H K L M P S T X true else bif (A==z0) then bif (decide (a2>1)) then p a0 a1 a2 A C E F G H K L M P S T X true else ck (aa0 [vT A C E F G H K L M P S T X,vL a0 3 a1]) (cP (q au4 [vT A C E F G H K L M P S T X,vL a0 3 a1] []) (fun d=>aB d fun e=>p a0 a1 a2 A C E F G H K L M P S T X (!e)) fun f=>panK f []) else bif (A==(15:Int)) then bif (decide (a2>1)) then p a0 a1 a2 A C E F G H K L M P S T X true else ck (aa0 [vT A C E F G H K L M P S T X,vL a0 3 a1]) (cP (q au4 [vT A C E F G H K L M P S T X,vL a0 3 a1] []) (fun g=>aB g fun i=>p a0 a1 a2 A C E F G H K L M P S T X (!i)) fun j=>panK j []) else ck (aa0 [vT A C E F G H K L M P S T X,vL a0 3 a1]) (cP (q au4 [vT A C E F G H K L M P S T X,vL a0 3 a1] []) (fun k=>aB k fun l=>p a0 a1 a2 A C E F G H K L M P S T X (!l)) fun m=>panK m [])) fun n=>panK n [])
theorem b_eq:ac7 Z 44 [vT A C E F G H K L M P S T X,vL a0 3 a1,vI a2] []=b Z.R Z.D (J0 Z) A C E F G H K L M P S T X a0 a1 a2:=by kernel_rfl
def J0b:Q->D->Tg6->Tg5:=fun p _ n c d e f g i a q r s t u v w x y z=>bif z then retR [vB false] [] else ck (aa0 [vL c 3 d,vT f g i a q r s t u v w x y]) (cP (p aN5 [vL c 3 d,vT f g i a q r s t u v w x y] []) (fun j=>aL 3 j fun k l=>n e k l t u (u.length:Int) z0) fun m=>panK m [])
theorem ab9:ac5 Z 44 .body J0P (J0F c d e f g i a q r s t u v w x y z)=J0b Z.R Z.D (L1 Z) c d e f g i a q r s t u v w x y z:=by kernel_rfl
def L1b:Q->D->Tg6->Tg6:=fun a7 _ a6 j k l m n p a=>bif (decide (a<p)) then idxK n a fun x=>aTy (V.cells x) fun c d e f g i q r s t u v w=>(ck (aa0 [vT c d e f g i q r s t u v w,vL k 3 l,vI (w6 (j+z1))]) (cP (a7 aj2 [vT c d e f g i q r s t u v w,vL k 3 l,vI (w6 (j+z1))] []) (fun a3=>aB a3 fun a4=>bif (!a4) then retR [vB false] [] else a6 j k l m n p (w6 (a+z1))) fun a5=>panK a5 [])) else retR [vB true] []
theorem ak9:ae4 Z 44 .body L1P (L1F j k l m n p a)=L1b Z.R Z.D (L1 Z) j k l m n p a:=by kernel_rfl
theorem b_of {o}(h:b RZ.R RZ.D (J0 RZ) A C E F G H K L M P S T X a0 a1 a2=some o):RZ.R aj2 [vT A C E F G H K L M P S T X,vL a0 3 a1,vI a2] []=some o:=ab7 ((b_eq RZ ..).trans h)
theorem ad0 {o}(h:J0b RZ.R RZ.D (L1 RZ) c d e f g i a q r s t u v w x y z=some o):J0 RZ c d e f g i a q r s t u v w x y z=some o:=aa9 (by kernel_rfl) ((ab9 RZ ..).trans h)
theorem ak4 {o}(h:L1b RZ.R RZ.D (L1 RZ) j k l m n p a=some o):L1 RZ j k l m n p a=some o:=ac9 ((ak9 RZ ..).trans h)
end
end ae1
namespace az0
section
variable (a:B)(c:Int)(d e:Y)(f g:Int)(i:B)(j:W)(k:B)(l:W)(m:B)(n:W)(p:B)(q r s t u:W)(v:Lo)(w x:Nat)(y:Int)(z A:Y)(C E:Int)(F:B)(G:W)(H:B)(K:W)(L:B)(M:W)(P:B)(S:W)(T:Lo)
def J0P:List Nat:=[0,1]
def J0F:St:=⟨mkT 31 [(3,V.loc 0 0,.no),(4,V.loc 1 0,.no),(6,vB a,.no)],mkA 2 [(0,[(vI c,.no),(vS d,.no),(vS e,.no),(vI f,.no),(vI g,.no),(vL i 1 j,.no),(vL k 9 l,.no),(vL m 1 n,.no),(vL p 3 q,.no)]),(1,[(vI 0,.no),(vS (⟨#[]⟩:ByteArray),.no),(vS (⟨#[]⟩:ByteArray),.no),(vI 0,.no),(vI 0,.no),(vL false 1 r,.full),(vL false 9 s,.full),(vL false 1 t,.full),(vL false 3 u,.full)])],0,[],v,[]⟩
def J0:=Z.X 66 .body J0P (J0F a c d e f g i j k l m n p q r s t u v)
def b:Q->D->Tg7->Tg8:=fun _ _ a _ _ y z A C E F G H K L M P S T=>bif (decide (C>=1)) then bif (decide (C<=31)) then bif (decide (E>=0)) then a (decide (E<=C)) y z A C E F G H K L M P S [] [] [] [] T else a false y z A C E F G H K L M P S [] [] [] [] T else a false y z A C E F G H K L M P S [] [] [] [] T else a false y z A C E F G H K L M P S [] [] [] [] T
theorem b_eq:ac7 Z 66 [vO w x,vT y z A C E F G H K L M P S] T=b Z.R Z.D (J0 Z) w x y z A C E F G H K L M P S T:=by kernel_rfl
def J0b:Q->D->Tg7:=fun _ _ a c d e _ _ i j k l m n p q _ _ _ _ v=>retR [vT c d e 0 0 i j k l m n p q,vB a] v
theorem ab9:ac5 Z 66 .body J0P (J0F a c d e f g i j k l m n p q r s t u v)=J0b Z.R Z.D a c d e f g i j k l m n p q r s t u v:=by kernel_rfl
theorem b_of {o}(h:b RZ.R RZ.D (J0 RZ) w x y z A C E F G H K L M P S T=some o):RZ.R i_kind_rules_4 [vO w x,vT y z A C E F G H K L M P S] T=some o:=ab7 ((b_eq RZ ..).trans h)
theorem ad0 {o}(h:J0b RZ.R RZ.D a c d e f g i j k l m n p q r s t u v=some o):J0 RZ a c d e f g i j k l m n p q r s t u v=some o:=aa9 (by kernel_rfl) ((ab9 RZ ..).trans h)
end
end az0
namespace ay8
section
variable (a:B)(c:Int)(d e:Y)(f g:Int)(i:B)(j:W)(k:B)(l:W)(m:B)(n:W)(p:B)(q r s t u:W)(v:Lo)(w x:Nat)(y:Int)(z A:Y)(C E:Int)(F:B)(G:W)(H:B)(K:W)(L:B)(M:W)(P:B)(S:W)(T:Lo)
def J0P:List Nat:=[0,1]
def J0F:St:=⟨mkT 36 [(3,V.loc 0 0,.no),(4,V.loc 1 0,.no),(6,vB a,.no)],mkA 2 [(0,[(vI c,.no),(vS d,.no),(vS e,.no),(vI f,.no),(vI g,.no),(vL i 1 j,.no),(vL k 9 l,.no),(vL m 1 n,.no),(vL p 3 q,.no)]),(1,[(vI 0,.no),(vS (⟨#[]⟩:ByteArray),.no),(vS (⟨#[]⟩:ByteArray),.no),(vI 0,.no),(vI 0,.no),(vL false 1 r,.full),(vL false 9 s,.full),(vL false 1 t,.full),(vL false 3 u,.full)])],0,[],v,[]⟩
def J0:=Z.X 68 .body J0P (J0F a c d e f g i j k l m n p q r s t u v)
def b:Q->D->Tg7->Tg8:=fun m _ l _ _ y z A C E F G H K L M P S T=>ck (aa0 [vT y z A C E F G H K L M P S]) (cP (m ar7 [vT y z A C E F G H K L M P S] []) (fun a=>aB a fun c=>bif c then bif (decide ((K.length:Int)>0)) then ck (aa0 [vL F 1 G,vI (w6 ((K.length:Int)-z1)),vI 1]) (cP (m an5 [vL F 1 G,vI (w6 ((K.length:Int)-z1)),vI 1] []) (fun d=>aB d fun e=>bif e then ck (aa0 [vT y z A C E F G H K L M P S]) (cP (m aR4 [vT y z A C E F G H K L M P S] []) (fun f=>aB f fun g=>l g y z A C E F G H K L M P S [] [] [] [] T) fun i=>panK i T) else l false y z A C E F G H K L M P S [] [] [] [] T) fun j=>panK j T) else l false y z A C E F G H K L M P S [] [] [] [] T else l false y z A C E F G H K L M P S [] [] [] [] T) fun k=>panK k T)
theorem b_eq:ac7 Z 68 [vO w x,vT y z A C E F G H K L M P S] T=b Z.R Z.D (J0 Z) w x y z A C E F G H K L M P S T:=by kernel_rfl
def J0b:Q->D->Tg7:=fun _ _ a c _ _ _ g _ _ _ _ _ _ p q _ _ _ _ v=>retR [vT c (⟨#[]⟩:ByteArray) (⟨#[]⟩:ByteArray) 0 g false [] false [] false [] p q,vB a] v
theorem ab9:ac5 Z 68 .body J0P (J0F a c d e f g i j k l m n p q r s t u v)=J0b Z.R Z.D a c d e f g i j k l m n p q r s t u v:=by kernel_rfl
theorem b_of {o}(h:b RZ.R RZ.D (J0 RZ) w x y z A C E F G H K L M P S T=some o):RZ.R i_kind_rules_6 [vO w x,vT y z A C E F G H K L M P S] T=some o:=ab7 ((b_eq RZ ..).trans h)
theorem ad0 {o}(h:J0b RZ.R RZ.D a c d e f g i j k l m n p q r s t u v=some o):J0 RZ a c d e f g i j k l m n p q r s t u v=some o:=aa9 (by kernel_rfl) ((ab9 RZ ..).trans h)
end
end ay8
namespace aQ6
section
variable (a c:Nat)(d:Int)(e f:Y)(g i:Int)(j:B)(k:W)(l:B)(m:W)(n:B)(p:W)(q:B)(r:W)(s:Lo)
def b:Q->D->Tg8:=fun w _ a c d e f g i j k l m n p q r s=>cS (w am2 [vO a c,vS e] s) (fun t u=>aB t fun v=>retR [vT d (⟨#[]⟩:ByteArray) f g i j k l m n p q r,vB v] u) panK
theorem b_eq:ac7 Z 76 [vO a c,vT d e f g i j k l m n p q r] s=b Z.R Z.D a c d e f g i j k l m n p q r s:=by kernel_rfl
theorem b_of {o}(h:b RZ.R RZ.D a c d e f g i j k l m n p q r s=some o):RZ.R bC3 [vO a c,vT d e f g i j k l m n p q r] s=some o:=ab7 ((b_eq RZ ..).trans h)
end
end aQ6
namespace au1
section
variable (a:Y)(c d:Int)(e:B)(f:Y)
def J0P:List Nat:=[0,0,1]
def J0F:St:=⟨mkT 22 [(0,vS a,.no),(10,vB e,.no)],mkA 0 [],0,[],[],[]⟩
def J0:=Z.X 80 .body J0P (J0F a e)
def L1P:List Nat:=[0,1,0,1,1]
def L1F:St:=⟨mkT 22 [(0,vS a,.no),(12,vI c,.no),(13,vI d,.no)],mkA 0 [],0,[],[],[]⟩
def L1:=Z.X 80 .body L1P (L1F a c d)
def b:Q->D->(Y->B->R)->Y->R:=fun _ _ a f=>bif (f.toList==(⟨#[]⟩:ByteArray).toList) then a f true else a f (decide ((f.size:Int)>32))
theorem b_eq:ac7 Z 80 [vS f] []=b Z.R Z.D (J0 Z) f:=by kernel_rfl
def J0b:Q->D->Tg9->Y->B->R:=fun _ _ c a e=>bif e then retR [vB false] [] else c a (a.size:Int) z0
theorem ab9:ac5 Z 80 .body J0P (J0F a e)=J0b Z.R Z.D (L1 Z) a e:=by kernel_rfl
def L1b:Q->D->Tg9->Tg9:=fun k _ j a c d=>bif (decide (d<c)) then aT3 a d fun e=>cP (k aU6 [vU e] []) (fun f=>aB f fun g=>bif (!g) then retR [vB false] [] else j a c (w6 (d+z1))) (fun i=>panK i []) else retR [vB true] []
theorem ak9:ae4 Z 80 .body L1P (L1F a c d)=L1b Z.R Z.D (L1 Z) a c d:=by kernel_rfl
theorem b_of {o}(h:b RZ.R RZ.D (J0 RZ) f=some o):RZ.R aM0 [vS f] []=some o:=ab7 ((b_eq RZ ..).trans h)
theorem ad0 {o}(h:J0b RZ.R RZ.D (L1 RZ) a e=some o):J0 RZ a e=some o:=aa9 (by kernel_rfl) ((ab9 RZ ..).trans h)
theorem ak4 {o}(h:L1b RZ.R RZ.D (L1 RZ) a c d=some o):L1 RZ a c d=some o:=ac9 ((ak9 RZ ..).trans h)
end
end au1
namespace bB9
section
variable (a:Int)(c d:Y)(e f:Int)(g:B)(i:W)(j:B)(k:W)(l:B)(m:W)(n:B)(p:W)
def b:Q->D->Tg4:=fun _ _ a c d e f g i j k l m n p=>retR [vT a c d e f g i j k l m n p] []
theorem b_eq:ac7 Z 83 [vT a c d e f g i j k l m n p] []=b Z.R Z.D a c d e f g i j k l m n p:=by kernel_rfl
theorem b_of {o}(h:b RZ.R RZ.D a c d e f g i j k l m n p=some o):RZ.R i_kind_same [vT a c d e f g i j k l m n p] []=some o:=ab7 ((b_eq RZ ..).trans h)
end
end bB9
namespace ak6
section
variable (a:B)(d:W)(e:Int)(c:W)(f g:Int)(i:B)
def J0P:List Nat:=[0,0,1]
def J0F:St:=⟨mkT 25 [(0,vL a 1 c,.no),(14,vB i,.no)],mkA 0 [],0,[],[],[]⟩
def J0:=Z.X 92 .body J0P (J0F a c i)
def L1P:List Nat:=[0,1,0,1,1]
def L1F:St:=⟨mkT 25 [(15,vL a 1 c,.no),(16,vI f,.no),(17,vI g,.no)],mkA 0 [],0,[],[],[]⟩
def L1:=Z.X 92 .body L1P (L1F a c f g)
def b:Q->D->(B->W->B->R)->B->W->Int->R:=fun j _ i a d e=>bif ((d.length:Int) !=e) then i a d true else ck (aa0 [vL a 1 d]) (cP (j as7 [vL a 1 d] []) (fun c=>aB c fun f=>i a d f) fun g=>panK g [])
theorem b_eq:ac7 Z 92 [vL a 1 d,vI e] []=b Z.R Z.D (J0 Z) a d e:=by kernel_rfl
def J0b:Q->D->Tg3->B->W->B->R:=fun _ _ d a c i=>bif i then retR [vB false] [] else d a c (c.length:Int) z0
theorem ab9:ac5 Z 92 .body J0P (J0F a c i)=J0b Z.R Z.D (L1 Z) a c i:=by kernel_rfl
def L1b:Q->D->Tg3->Tg3:=fun p _ n a c f g=>bif (decide (g<f)) then idxK c g fun d=>aC (V.cells d) fun e i=>aS e fun j=>aN i (cP (p av0 [vS j] []) (fun k=>aB k fun l=>bif (!l) then retR [vB false] [] else n a c f (w6 (g+z1))) fun m=>panK m []) else retR [vB true] []
theorem ak9:ae4 Z 92 .body L1P (L1F a c f g)=L1b Z.R Z.D (L1 Z) a c f g:=by kernel_rfl
theorem b_of {o}(h:b RZ.R RZ.D (J0 RZ) a d e=some o):RZ.R aq1 [vL a 1 d,vI e] []=some o:=ab7 ((b_eq RZ ..).trans h)
theorem ad0 {o}(h:J0b RZ.R RZ.D (L1 RZ) a c i=some o):J0 RZ a c i=some o:=aa9 (by kernel_rfl) ((ab9 RZ ..).trans h)
theorem ak4 {o}(h:L1b RZ.R RZ.D (L1 RZ) a c f g=some o):L1 RZ a c f g=some o:=ac9 ((ak9 RZ ..).trans h)
end
end ak6
end
end Go.Proofs.YtflhfchgdpbhcaaGreat.E
