/- It is proved of functions that StubTypes reaches what their evaluation is, in plain words. No condition. -/
import Derived.Test.YtflhfchgdpbhcaaGreatLH
set_option maxRecDepth 100000
set_option maxHeartbeats 40000
namespace Go.Proofs.YtflhfchgdpbhcaaGreat.E
open Go
noncomputable section
abbrev Ti0:=Y->B->Int->Y->Y->Int->Int->B->W->B->W->B->W->B->W->B->W->B->W->B->R
abbrev Ti1:=Int->Nat->Nat->Int->Y->Y->Int->Int->B->W->B->W->B->W->B->W->B->W->Int->Int->Lo->R
abbrev Ti2:=Int->Nat->Nat->Int->Y->Y->Int->Int->B->W->B->W->B->W->B->W->B->Lo->R
abbrev Ti3:=Int->Nat->Nat->B->W->Int->Int->Lo->R
abbrev Ti4:=W->W->W->W->Y->Y->B->W->B->W->W->W->R
abbrev Ti5:=Int->Int->Y->Y->Int->Int->B->W->B->W->B->W->B->W->Int->B->R
abbrev Ti6:=Int->Y->Y->Int->Int->B->W->B->W->B->W->B->W->B->Int->B->R
abbrev Ti7:=V->V->Int->Lo->R
variable (Z:Env)
namespace am3
section
variable (a:B)(c:Y)(d:B)(e:Int)(f g:Y)(i j:Int)(k:B)(l:W)(m:B)(n:W)(p:B)(q:W)(r:B)(s:W)(t:B)(u:W)(v:B)(w:W)
def J0P:List Nat:=[0,1,1,1,1,1,1]
def J0F:St:=⟨mkT 64 [(2,vB a,.no)],mkA 4 [],0,[],[],[]⟩
def J0:=Z.X 3 .body J0P (J0F a)
def b:Q->D->(B->R)->Y->B->Int->Y->Y->Int->Int->B->W->B->W->B->W->B->W->B->W->B->W->R:=fun u0 _ t9 c d e f g i j k l m n p q r s t u v w=>ck (aa0 [vA [vS c,vB d,vI e,vS f,vS g,vI i,vI j,vL k 1 l,vL m 9 n,vL p 1 q,vL r 3 s,vL t 11 u,vL v 9 w,vL false 9 [],vL false 6 [],vB false,vI 0]]) (cP (u0 aR1 [vA [vS c,vB d,vI e,vS f,vS g,vI i,vI j,vL k 1 l,vL m 9 n,vL p 1 q,vL r 3 s,vL t 11 u,vL v 9 w,vL false 9 [],vL false 6 [],vB false,vI 0]] []) (fun e5=>aB e5 fun e6=>bif (!e6) then cP (u0 aD2 [] []) (fun e7=>aB e7 fun e8=>retR [vB e8] []) (fun e9=>panK e9 []) else ck (aa0 [vA [vS c,vB d,vI e,vS f,vS g,vI i,vI j,vL k 1 l,vL m 9 n,vL p 1 q,vL r 3 s,vL t 11 u,vL v 9 w]]) (aH8 (u0 ax8 [vA [vS c,vB d,vI e,vS f,vS g,vI i,vI j,vL k 1 l,vL m 9 n,vL p 1 q,vL r 3 s,vL t 11 u,vL v 9 w]] []) (fun f0=>aT f0 fun f1=>aC f1 fun f2 f3=>aA f2 fun f4=>aTy f4 fun a x y z A C E F G H K L M=>(aC f3 fun j3 j4=>aI j3 fun j5=>aN j4 (ck (aa0 [vA [vS c,vB d,vI e,vS f,vS g,vI i,vI j,vL k 1 l,vL m 9 n,vL p 1 q,vL r 3 s,vL t 11 u,vL v 9 w]]) (aH8 (u0 aF0 [vA [vS c,vB d,vI e,vS f,vS g,vI i,vI j,vL k 1 l,vL m 9 n,vL p 1 q,vL r 3 s,vL t 11 u,vL v 9 w]] []) (fun j6=>aT j6 fun j7=>aC j7 fun j8 j9=>aA j8 fun k0=>aTy k0 fun P S T X a0 a1 a2 a3 a4 a5 a6 a7 a8=>(aC j9 fun l9 m0=>aI l9 fun m1=>aN m0 (ck (aa0 [vA [vS c,vB d,vI e,vS f,vS g,vI i,vI j,vL k 1 l,vL m 9 n,vL p 1 q,vL r 3 s,vL t 11 u,vL v 9 w]]) (aH8 (u0 aC9 [vA [vS c,vB d,vI e,vS f,vS g,vI i,vI j,vL k 1 l,vL m 9 n,vL p 1 q,vL r 3 s,vL t 11 u,vL v 9 w]] []) (fun m2=>aT m2 fun m3=>aC m3 fun m4 m5=>aA m4 fun m6=>aTy m6 fun a9 c0 c1 c2 c3 c4 c5 c6 c7 c8 c9 d0 d1=>(aC m5 fun p5 p6=>aI p5 fun p7=>aN p6 (ck (aa0 [vA [vS c,vB d,vI e,vS f,vS g,vI i,vI j,vL k 1 l,vL m 9 n,vL p 1 q,vL r 3 s,vL t 11 u,vL v 9 w]]) (aH8 (u0 aN3 [vA [vS c,vB d,vI e,vS f,vS g,vI i,vI j,vL k 1 l,vL m 9 n,vL p 1 q,vL r 3 s,vL t 11 u,vL v 9 w]] []) (fun p8=>aT p8 fun p9=>aC p9 fun q0 q1=>aA q0 fun q2=>aTy q2 fun d2 d3 d4 d5 d6 d7 d8 d9 e0 e1 e2 e3 e4=>(aC q1 fun s1 s2=>aI s1 fun s3=>aN s2 (ck (aa0 [vA [vS c,vB d,vI e,vS f,vS g,vI i,vI j,vL k 1 l,vL m 9 n,vL p 1 q,vL r 3 s,vL t 11 u,vL v 9 w]]) (cP (u0 au3 [vA [vS c,vB d,vI e,vS f,vS g,vI i,vI j,vL k 1 l,vL m 9 n,vL p 1 q,vL r 3 s,vL t 11 u,vL v 9 w]] []) (fun s4=>aB s4 fun s5=>ck (aa0 [vA [vS c,vB d,vI e,vS f,vS g,vI i,vI j,vL k 1 l,vL m 9 n,vL p 1 q,vL r 3 s,vL t 11 u,vL v 9 w]]) (cP (u0 ap5 [vA [vS c,vB d,vI e,vS f,vS g,vI i,vI j,vL k 1 l,vL m 9 n,vL p 1 q,vL r 3 s,vL t 11 u,vL v 9 w]] []) (fun s6=>aB s6 fun s7=>bif (s5==s7) then ck (aa0 [vT a x y z A C E F G H K L M,vT P S T X a0 a1 a2 a3 a4 a5 a6 a7 a8]) (cP (u0 aA6 [vT a x y z A C E F G H K L M,vT P S T X a0 a1 a2 a3 a4 a5 a6 a7 a8] []) (fun s8=>aB s8 fun s9=>bif s9 then bif (j5==m1) then ck (aa0 [vT a9 c0 c1 c2 c3 c4 c5 c6 c7 c8 c9 d0 d1,vT d2 d3 d4 d5 d6 d7 d8 d9 e0 e1 e2 e3 e4]) (cP (u0 aA6 [vT a9 c0 c1 c2 c3 c4 c5 c6 c7 c8 c9 d0 d1,vT d2 d3 d4 d5 d6 d7 d8 d9 e0 e1 e2 e3 e4] []) (fun t0=>aB t0 fun t1=>bif t1 then bif (p7==s3) then cP (u0 aD2 [] []) (fun t2=>aB t2 fun t3=>t9 t3) (fun _=>none) else t9 false else t9 false) fun _=>none) else t9 false else t9 false) fun _=>none) else t9 false) fun _=>none)) fun _=>none)))) fun t4=>panK t4 [])))) fun t5=>panK t5 [])))) fun t6=>panK t6 [])))) fun t7=>panK t7 [])) fun t8=>panK t8 [])
theorem b_eq:ac7 Z 3 [vA [vS c,vB d,vI e,vS f,vS g,vI i,vI j,vL k 1 l,vL m 9 n,vL p 1 q,vL r 3 s,vL t 11 u,vL v 9 w]] []=b Z.R Z.D (J0 Z) c d e f g i j k l m n p q r s t u v w:=by kernel_rfl
def J0b:Q->D->B->R:=fun _ _ a=>retR [vB a] []
theorem ab9:ac5 Z 3 .body J0P (J0F a)=J0b Z.R Z.D a:=by kernel_rfl
theorem b_of {o}(h:b RZ.R RZ.D (J0 RZ) c d e f g i j k l m n p q r s t u v w=some o):RZ.R aS8 [vA [vS c,vB d,vI e,vS f,vS g,vI i,vI j,vL k 1 l,vL m 9 n,vL p 1 q,vL r 3 s,vL t 11 u,vL v 9 w]] []=some o:=ab7 ((b_eq RZ ..).trans h)
theorem ad0 {o}(h:J0b RZ.R RZ.D a=some o):J0 RZ a=some o:=aa9 (by kernel_rfl) ((ab9 RZ ..).trans h)
end
end am3
namespace aU0
section
variable (a:Int)(c d:Y)(e f:Int)(g:B)(i:W)(j:B)(k:W)(l:B)(m:W)(n:B)(p:W)(q:Int)(r s:Y)(t u:Int)(v:B)(w:W)(x:B)(y:W)(z:B)(A:W)(C:B)(E:W)
def b:Q->D->Int->Y->Y->Int->Int->B->W->B->W->B->W->B->W->Int->Y->Y->Int->Int->B->W->B->W->B->W->B->W->R:=fun K _ a c d e f g i j k l m n p q r s t u v w x y z A C E=>ck (aa0 [vT a c d e f g i j k l m n p,vT q r s t u v w x y z A C E,vB true]) (cP (K ax0 [vT a c d e f g i j k l m n p,vT q r s t u v w x y z A C E,vB true] []) (fun F=>aB F fun G=>retR [vB G] []) fun H=>panK H [])
theorem b_eq:ac7 Z 12 [vT a c d e f g i j k l m n p,vT q r s t u v w x y z A C E] []=b Z.R Z.D a c d e f g i j k l m n p q r s t u v w x y z A C E:=by kernel_rfl
theorem b_of {o}(h:b RZ.R RZ.D a c d e f g i j k l m n p q r s t u v w x y z A C E=some o):RZ.R aA6 [vT a c d e f g i j k l m n p,vT q r s t u v w x y z A C E] []=some o:=ab7 ((b_eq RZ ..).trans h)
end
end aU0
namespace aC6
section
variable (a c:B)(d:W)
def J0P:List Nat:=[0,1]
def J0F:St:=⟨mkT 10 [(2,vB a,.no)],mkA 0 [],0,[],[],[]⟩
def J0:=Z.X 14 .body J0P (J0F a)
def b:Q->D->(B->R)->B->W->R:=fun i _ g c d=>bif (decide ((d.length:Int)<=12)) then ck (aa0 [vL c 9 d]) (cP (i aq2 [vL c 9 d] []) (fun a=>aB a fun e=>g e) fun f=>panK f []) else g false
theorem b_eq:ac7 Z 14 [vL c 9 d] []=b Z.R Z.D (J0 Z) c d:=by kernel_rfl
def J0b:Q->D->B->R:=fun _ _ a=>retR [vB a] []
theorem ab9:ac5 Z 14 .body J0P (J0F a)=J0b Z.R Z.D a:=by kernel_rfl
theorem b_of {o}(h:b RZ.R RZ.D (J0 RZ) c d=some o):RZ.R aR2 [vL c 9 d] []=some o:=ab7 ((b_eq RZ ..).trans h)
theorem ad0 {o}(h:J0b RZ.R RZ.D a=some o):J0 RZ a=some o:=aa9 (by kernel_rfl) ((ab9 RZ ..).trans h)
end
end aC6
namespace bb2
section
variable (a:Y)(c:B)(d:Int)(e f:Y)(g i:Int)(j:B)(k:W)(l:B)(m:W)(n:B)(p:W)(q:B)(r:W)(s:B)(t:W)(u:B)(v:W)(w:B)
def b:Q->D->Ti0:=fun d4 _ a c d e f g i j k l m n p q r s t u v w=>ck (aa0 [vA [vS a,vB c,vI d,vS e,vS f,vI g,vI i,vL j 1 k,vL l 9 m,vL n 1 p,vL q 3 r,vL s 11 t,vL u 9 v]]) (cP (d4 au3 [vA [vS a,vB c,vI d,vS e,vS f,vI g,vI i,vL j 1 k,vL l 9 m,vL n 1 p,vL q 3 r,vL s 11 t,vL u 9 v]] []) (fun S=>aB S fun T=>bif (!T) then retR [vT 0 (⟨#[]⟩:ByteArray) (⟨#[]⟩:ByteArray) 0 0 false [] false [] false [] false [],vI 1] [] else ck (aa0 [vA [vS a,vB c,vI d,vS e,vS f,vI g,vI i,vL j 1 k,vL l 9 m,vL n 1 p,vL q 3 r,vL s 11 t,vL u 9 v],vB w]) (cP (d4 aU5 [vA [vS a,vB c,vI d,vS e,vS f,vI g,vI i,vL j 1 k,vL l 9 m,vL n 1 p,vL q 3 r,vL s 11 t,vL u 9 v],vB w] []) (fun X=>aA X fun a0=>aTy a0 fun x y z A C E F G H K L M P=>(ck (aa0 [vT x y z A C E F G H K L M P]) (cP (d4 av1 [vT x y z A C E F G H K L M P] []) (fun c9=>aB c9 fun d0=>bif (!d0) then retR [vT 0 (⟨#[]⟩:ByteArray) (⟨#[]⟩:ByteArray) 0 0 false [] false [] false [] false [],vI 4] [] else retR [vT x y z A C E F G H K L M P,vI 0] []) fun d1=>panK d1 []))) fun d2=>panK d2 [])) fun d3=>panK d3 [])
theorem b_eq:ac7 Z 16 [vA [vS a,vB c,vI d,vS e,vS f,vI g,vI i,vL j 1 k,vL l 9 m,vL n 1 p,vL q 3 r,vL s 11 t,vL u 9 v],vB w] []=b Z.R Z.D a c d e f g i j k l m n p q r s t u v w:=by kernel_rfl
theorem b_of {o}(h:b RZ.R RZ.D a c d e f g i j k l m n p q r s t u v w=some o):RZ.R aH1 [vA [vS a,vB c,vI d,vS e,vS f,vI g,vI i,vL j 1 k,vL l 9 m,vL n 1 p,vL q 3 r,vL s 11 t,vL u 9 v],vB w] []=some o:=ab7 ((b_eq RZ ..).trans h)
end
end bb2
namespace ac2
section
variable (a:Int)(c d:Nat)(f:Int)(g i:Y)(y:B)(z:W)(A e:Int)(C:Lo)(j:Int)(k:B)(l:W)(m:B)(n:W)(p:B)(q:W)(r:B)(s:W)(t:B)(u:W)(v w:Int)(x:Lo)(E:B)(F:Lo)(G:Int)(H K:Y)(L M:Int)(P:B)(S:W)(T:B)(X:W)(a0:B)(a1:W)(a2:B)(a3:W)(a4:Int)(a5 a6:Nat)(a7:Lo)
def L0P:List Nat:=[0,1,0,1,1]
def L0F:St:=⟨mkT 111 [(1,vI a,.no),(2,vO c d,.no),(3,vQ f g i e j k l m n p q r s,.no),(42,vL t 1 u,.no),(43,vI v,.no),(44,vI w,.no)],mkA 2 [],0,[],x,[]⟩
def L0:=Z.X 32 .body L0P (L0F a c d f g i e j k l m n p q r s t u v w x)
def L1P:List Nat:=[0,1,0,1,1,1]
def L1F:St:=⟨mkT 111 [(1,vI a,.no),(2,vO c d,.no),(3,vQ f g i e j k l m n p q r s,.no),(58,vL t 1 u,.no),(59,vI v,.no),(60,vI w,.no)],mkA 2 [],0,[],x,[]⟩
def L1:=Z.X 32 .body L1P (L1F a c d f g i e j k l m n p q r s t u v w x)
def L2P:List Nat:=[0,1,0,1,1,1,1]
def L2F:St:=⟨mkT 111 [(1,vI a,.no),(2,vO c d,.no),(3,vQ f g i e j k l m n p q r s,.no),(73,vL t 3 u,.no),(74,vI v,.no),(75,vI w,.no)],mkA 2 [],0,[],x,[]⟩
def L2:=Z.X 32 .body L2P (L2F a c d f g i e j k l m n p q r s t u v w x)
def J3P:List Nat:=[0,0,1,1,1,1,1]
def J3F:St:=⟨mkT 111 [(1,vI a,.no),(2,vO c d,.no),(3,vQ f g i e j k l m n p q r s,.no),(96,vB E,.no)],mkA 2 [],0,[],F,[]⟩
def J3:=Z.X 32 .body J3P (J3F a c d f g i e j k l m n p q r s E F)
def L4P:List Nat:=[0,1,0,1,1,1,1,1,1]
def L4F:St:=⟨mkT 111 [(1,vI a,.no),(2,vO c d,.no),(98,vL y 9 z,.no),(99,vI A,.no),(100,vI e,.no)],mkA 2 [],0,[],C,[]⟩
def L4:=Z.X 32 .body L4P (L4F a c d y z A e C)
def b:Q->D->Ti1->Int->Y->Y->Int->Int->B->W->B->W->B->W->B->W->Int->Nat->Nat->Lo->R:=fun _ _ e G H K L M P S T X a0 a1 a2 a3 a4 a5 a6 a7=>rd1 a7 a5 a6 fun a=>aI a fun c=>wrO a7 a5 a6 [(vI (w6 (c+(w6 ((w6 ((w6 ((w6 (z1+(S.length:Int)))+(a1.length:Int)))+(a3.length:Int)))+(w6 ((w6 ((H.size:Int)+(K.size:Int))).tdiv (40:Int))))))),false)] fun d=>e a4 a5 a6 G H K L M P S T X a0 a1 a2 a3 P S (S.length:Int) z0 d
theorem b_eq:ac7 Z 32 [vT G H K L M P S T X a0 a1 a2 a3,vI a4,vO a5 a6] a7=b Z.R Z.D (L0 Z) G H K L M P S T X a0 a1 a2 a3 a4 a5 a6 a7:=by kernel_rfl
def L0b:Q->D->Ti1->Ti1->Ti1:=fun _ _ H K a c d f g i e j k l m n p q r s t u v w x=>bif (decide (w<v)) then idxK u w fun y=>aC (V.cells y) fun z A=>aS z fun C=>aN A (rd1 x c d fun E=>aI E fun F=>wrO x c d [(vI (w6 (F+(w6 ((C.size:Int).tdiv (40:Int))))),false)] fun G=>H a c d f g i e j k l m n p q r s t u v (w6 (w+z1)) G) else K a c d f g i e j k l m n p q r s p q (q.length:Int) z0 x
theorem ag9:ae4 Z 32 .body L0P (L0F a c d f g i e j k l m n p q r s t u v w x)=L0b Z.R Z.D (L0 Z) (L1 Z) a c d f g i e j k l m n p q r s t u v w x:=by kernel_rfl
def L1b:Q->D->Ti1->Ti1->Ti1:=fun _ _ H K a c d f g i e j k l m n p q r s t u v w x=>bif (decide (w<v)) then idxK u w fun y=>aC (V.cells y) fun z A=>aL 1 z fun _ C=>aN A (rd1 x c d fun E=>aI E fun F=>wrO x c d [(vI (w6 (F+(C.length:Int))),false)] fun G=>H a c d f g i e j k l m n p q r s t u v (w6 (w+z1)) G) else K a c d f g i e j k l m n p q r s r s (s.length:Int) z0 x
theorem ak9:ae4 Z 32 .body L1P (L1F a c d f g i e j k l m n p q r s t u v w x)=L1b Z.R Z.D (L1 Z) (L2 Z) a c d f g i e j k l m n p q r s t u v w x:=by kernel_rfl
def L2b:Q->D->Ti1->Ti2->Ti1:=fun _ _ T X a c d f g i e j k l m n p q r s t u v w x=>bif (decide (w<v)) then idxK u w fun y=>aC (V.cells y) fun z A=>aS z fun C=>aC A fun E F=>aI E fun _=>aC F fun G H=>aB G fun _=>aN H (rd1 x c d fun K=>aI K fun L=>wrO x c d [(vI (w6 (L+(w6 ((C.size:Int).tdiv (40:Int))))),false)] fun M=>T a c d f g i e j k l m n p q r s t u v (w6 (w+z1)) M) else rd1 x c d fun P=>aI P fun S=>bif (decide (S>800)) then X a c d f g i e j k l m n p q r s true x else X a c d f g i e j k l m n p q r s (decide (a>40)) x
theorem L2b_eq:ae4 Z 32 .body L2P (L2F a c d f g i e j k l m n p q r s t u v w x)=L2b Z.R Z.D (L2 Z) (J3 Z) a c d f g i e j k l m n p q r s t u v w x:=by kernel_rfl
def J3b:Q->D->Ti3->Ti2:=fun _ _ t a c d _ _ _ _ _ _ _ m n _ _ _ _ E F=>bif E then retR [vB false] F else t a c d m n (n.length:Int) z0 F
theorem aw4:ac5 Z 32 .body J3P (J3F a c d f g i e j k l m n p q r s E F)=J3b Z.R Z.D (L4 Z) a c d f g i e j k l m n p q r s E F:=by kernel_rfl
def L4b:Q->D->Ti3->Ti3:=fun a8 _ a7 a c d y z A e C=>bif (decide (e<A)) then idxK z e fun g=>aTy (V.cells g) fun k n r u x G H M P X a0 a3 a4=>(cS (a8 ax1 [vT k n r u x G H M P X a0 a3 a4,vI (w6 (a+z1)),vO c d] C) (fun a5 f=>aB a5 fun a6=>bif (!a6) then retR [vB false] f else a7 a c d y z A (w6 (e+z1)) f) panK) else retR [vB true] C
theorem aF3:ae4 Z 32 .body L4P (L4F a c d y z A e C)=L4b Z.R Z.D (L4 Z) a c d y z A e C:=by kernel_rfl
theorem b_of {o}(h:b RZ.R RZ.D (L0 RZ) G H K L M P S T X a0 a1 a2 a3 a4 a5 a6 a7=some o):RZ.R ax1 [vT G H K L M P S T X a0 a1 a2 a3,vI a4,vO a5 a6] a7=some o:=ab7 ((b_eq RZ ..).trans h)
theorem ag6 {o}(h:L0b RZ.R RZ.D (L0 RZ) (L1 RZ) a c d f g i e j k l m n p q r s t u v w x=some o):L0 RZ a c d f g i e j k l m n p q r s t u v w x=some o:=ac9 ((ag9 RZ ..).trans h)
theorem ak4 {o}(h:L1b RZ.R RZ.D (L1 RZ) (L2 RZ) a c d f g i e j k l m n p q r s t u v w x=some o):L1 RZ a c d f g i e j k l m n p q r s t u v w x=some o:=ac9 ((ak9 RZ ..).trans h)
theorem L2_of {o}(h:L2b RZ.R RZ.D (L2 RZ) (J3 RZ) a c d f g i e j k l m n p q r s t u v w x=some o):L2 RZ a c d f g i e j k l m n p q r s t u v w x=some o:=ac9 ((L2b_eq RZ ..).trans h)
theorem aH9 {o}(h:J3b RZ.R RZ.D (L4 RZ) a c d f g i e j k l m n p q r s E F=some o):J3 RZ a c d f g i e j k l m n p q r s E F=some o:=aa9 (by kernel_rfl) ((aw4 RZ ..).trans h)
theorem aE4 {o}(h:L4b RZ.R RZ.D (L4 RZ) a c d y z A e C=some o):L4 RZ a c d y z A e C=some o:=ac9 ((aF3 RZ ..).trans h)
end
end ac2
namespace aK0
section
variable (a c d e:W)(f g:Y)(i:B)(j:W)(k:B)(l m n:W)(p:Y)(q:B)(r:Int)(s t:Y)(u v:Int)(w:B)(x:W)(y:B)(z:W)(A:B)(C:W)(E:B)(F:W)(G:B)(H:W)(K:B)(L:W)(M:B)
def J0P:List Nat:=[1,0,1,1,1,1]
def J0F:St:=⟨mkT 25 [(4,V.loc 0 0,.no),(7,V.loc 1 0,.no)],mkA 2 [(0,[(vI 0,.no),(vS (⟨#[]⟩:ByteArray),.no),(vS (⟨#[]⟩:ByteArray),.no),(vI 0,.no),(vI 0,.no),(vL false 1 a,.full),(vL false 9 c,.full),(vL false 1 d,.full),(vL false 3 e,.full)]),(1,[(vI 10,.no),(vS f,.no),(vS g,.no),(vI 0,.no),(vI 0,.no),(vL i 1 j,.no),(vL k 9 l,.no),(vL false 1 m,.full),(vL false 3 n,.full)])],0,[],[],[]⟩
def J0:=Z.X 34 .body J0P (J0F a c d e f g i j k l m n)
def b:Q->D->Ti4->Ti0:=fun P _ n p q r s t u v w x y z A C E F G H K L M=>ck (aa0 [vA [vS p,vB q,vI r,vS s,vS t,vI u,vI v,vL w 1 x,vL y 9 z,vL A 1 C,vL E 3 F,vL G 11 H,vL K 9 L],vB M]) (aH8 (P aA2 [vA [vS p,vB q,vI r,vS s,vS t,vI u,vI v,vL w 1 x,vL y 9 z,vL A 1 C,vL E 3 F,vL G 11 H,vL K 9 L],vB M] []) (fun f=>aT f fun g=>aC g fun i j=>aL 1 i fun c a=>aC j fun k l=>aL 9 k fun d e=>aN l (bif ((a.length:Int)==z0) then retR [vT 0 (⟨#[]⟩:ByteArray) (⟨#[]⟩:ByteArray) 0 0 false [] false [] false [] false []] [] else bif M then n [] [] [] [] (⟨#[97,110,115,119,101,114]⟩:ByteArray) (⟨#[65,110,115,119,101,114]⟩:ByteArray) c a d e [] [] else n [] [] [] [] (⟨#[113,117,101,115,116,105,111,110]⟩:ByteArray) (⟨#[81,117,101,115,116,105,111,110]⟩:ByteArray) c a d e [] [])) fun m=>panK m [])
theorem b_eq:ac7 Z 34 [vA [vS p,vB q,vI r,vS s,vS t,vI u,vI v,vL w 1 x,vL y 9 z,vL A 1 C,vL E 3 F,vL G 11 H,vL K 9 L],vB M] []=b Z.R Z.D (J0 Z) p q r s t u v w x y z A C E F G H K L M:=by kernel_rfl
def J0b:Q->D->Ti4:=fun _ _ _ _ _ _ f g i j k l m n=>retR [vT 10 f g 0 0 i j k l false m false n] []
theorem ab9:ac5 Z 34 .body J0P (J0F a c d e f g i j k l m n)=J0b Z.R Z.D a c d e f g i j k l m n:=by kernel_rfl
theorem b_of {o}(h:b RZ.R RZ.D (J0 RZ) p q r s t u v w x y z A C E F G H K L M=some o):RZ.R aU5 [vA [vS p,vB q,vI r,vS s,vS t,vI u,vI v,vL w 1 x,vL y 9 z,vL A 1 C,vL E 3 F,vL G 11 H,vL K 9 L],vB M] []=some o:=ab7 ((b_eq RZ ..).trans h)
theorem ad0 {o}(h:J0b RZ.R RZ.D a c d e f g i j k l m n=some o):J0 RZ a c d e f g i j k l m n=some o:=aa9 (by kernel_rfl) ((ab9 RZ ..).trans h)
end
end aK0
namespace an1
section
variable (a:B)(c:W)(d:Y)
def b:Q->D->B->W->Y->R:=fun i _ a c d=>ck (aa0 [vL a 1 c,vS d]) (cP (i an8 [vL a 1 c,vS d] []) (fun e=>aI e fun f=>retR [vB (decide (f>=0))] []) fun g=>panK g [])
theorem b_eq:ac7 Z 85 [vL a 1 c,vS d] []=b Z.R Z.D a c d:=by kernel_rfl
theorem b_of {o}(h:b RZ.R RZ.D a c d=some o):RZ.R am4 [vL a 1 c,vS d] []=some o:=ab7 ((b_eq RZ ..).trans h)
end
end an1
namespace ak0
section
variable (a:B)(c:Int)(m:Y)(n:Int)(d p:Y)(q e r:Int)(s:B)(t:W)(u:B)(v:W)(w:B)(x:W)(y:B)(z:W)(A:Int)(C E:Y)(F G:Int)(f:B)(H K:W)(g:B)(L M:W)(i:B)(P S:W)(j:B)(T:W)(X:Int)(a0:W)(a1:B)(k:Int)(l:B)
def J0P:List Nat:=[0,0,1,0,1,0,1]
def J0F:St:=⟨mkT 53 [(4,vB a,.no)],mkA 0 [],0,[],[],[]⟩
def J0:=Z.X 87 .body J0P (J0F a)
def J1P:List Nat:=[1,0,1,1,0,1,0,1]
def J1F:St:=⟨mkT 53 [(1,vI c,.no),(2,vQ n d p e r s t u v w x y z,.no),(6,vI k,.no),(15,vB l,.no)],mkA 0 [],0,[],[],[]⟩
def J1:=Z.X 87 .body J1P (J1F c n d p e r s t u v w x y z k l)
def J2P:List Nat:=[0,0,1,1,1,0,1,0,1]
def J2F:St:=⟨mkT 53 [(2,vQ c m d q e f K g M i S j a0,.no),(4,vB a1,.no),(6,vI k,.no),(15,vB l,.no)],mkA 0 [],0,[],[],[]⟩
def J2:=Z.X 87 .body J2P (J2F c m d q e f K g M i S j a0 a1 k l)
def J3P:List Nat:=[0,0,1,1,1,1,1,0,1,0,1]
def J3F:St:=⟨mkT 53 [(4,vB a,.no)],mkA 0 [],0,[],[],[]⟩
def J3:=Z.X 87 .body J3P (J3F a)
def J4P:List Nat:=[0,0,1,1,1,1,1,1,1,0,1,0,1]
def J4F:St:=⟨mkT 53 [(4,vB a,.no)],mkA 0 [],0,[],[],[]⟩
def J4:=Z.X 87 .body J4P (J4F a)
def J5P:List Nat:=[0,0,1,1,1,1,1,1,1,1,1,1,1,0,1,0,1]
def J5F:St:=⟨mkT 53 [(4,vB a,.no)],mkA 0 [],0,[],[],[]⟩
def J5:=Z.X 87 .body J5P (J5F a)
def b:Q->D->(B->R)->Ti5->Int->Y->Y->Int->Int->B->W->B->W->B->W->B->W->Int->R:=fun _ _ a c A C E F G f H g L i P j T X=>bif (A==z1) then bif (X==z0) then a true else a (X==z1) else bif (A==(2:Int)) then c X A C E F G f H g L i P j T A (A==(2:Int)) else c X A C E F G f H g L i P j T A (A==(3:Int))
theorem b_eq:ac7 Z 87 [vT A C E F G f H g L i P j T,vI X] []=b Z.R Z.D (J0 Z) (J1 Z) A C E F G f H g L i P j T X:=by kernel_rfl
def J0b:Q->D->B->R:=fun _ _ a=>retR [vB a] []
theorem ab9:ac5 Z 87 .body J0P (J0F a)=J0b Z.R Z.D a:=by kernel_rfl
def J1b:Q->D->Ti6->(B->R)->(B->R)->(B->R)->Ti5:=fun _ _ a f g i c n d p e r s t u v w x y z k l=>bif l then bif (decide (c>=0)) then a n d p e r s t u v w x y z (decide (c<=255)) k l else a n d p e r s t u v w x y z false k l else bif (k==(4:Int)) then bif (decide (c>=(-32768))) then f (decide (c<32768)) else f false else bif (k==(5:Int)) then bif (decide (c>=(-2147483648))) then g (decide (c<2147483648)) else g false else bif (k==(6:Int)) then retR [vB true] [] else bif (k==(9:Int)) then bif (decide (c>=0)) then i (decide (c<(t.length:Int))) else i false else retR [vB false] []
theorem ak2:ac5 Z 87 .body J1P (J1F c n d p e r s t u v w x y z k l)=J1b Z.R Z.D (J2 Z) (J3 Z) (J4 Z) (J5 Z) c n d p e r s t u v w x y z k l:=by kernel_rfl
def J2b:Q->D->Ti6:=fun _ _ _ _ _ _ _ _ _ _ _ _ _ _ _ a1 _ _=>retR [vB a1] []
theorem ah0:ac5 Z 87 .body J2P (J2F c m d q e f K g M i S j a0 a1 k l)=J2b Z.R Z.D c m d q e f K g M i S j a0 a1 k l:=by kernel_rfl
def J3b:Q->D->B->R:=fun _ _ a=>retR [vB a] []
theorem aw4:ac5 Z 87 .body J3P (J3F a)=J3b Z.R Z.D a:=by kernel_rfl
def J4b:Q->D->B->R:=fun _ _ a=>retR [vB a] []
theorem aF4:ac5 Z 87 .body J4P (J4F a)=J4b Z.R Z.D a:=by kernel_rfl
def J5b:Q->D->B->R:=fun _ _ a=>retR [vB a] []
theorem aA0:ac5 Z 87 .body J5P (J5F a)=J5b Z.R Z.D a:=by kernel_rfl
theorem b_of {o}(h:b RZ.R RZ.D (J0 RZ) (J1 RZ) A C E F G f H g L i P j T X=some o):RZ.R aZ1 [vT A C E F G f H g L i P j T,vI X] []=some o:=ab7 ((b_eq RZ ..).trans h)
theorem ad0 {o}(h:J0b RZ.R RZ.D a=some o):J0 RZ a=some o:=aa9 (by kernel_rfl) ((ab9 RZ ..).trans h)
theorem an7 {o}(h:J1b RZ.R RZ.D (J2 RZ) (J3 RZ) (J4 RZ) (J5 RZ) c n d p e r s t u v w x y z k l=some o):J1 RZ c n d p e r s t u v w x y z k l=some o:=aa9 (by kernel_rfl) ((ak2 RZ ..).trans h)
theorem ak5 {o}(h:J2b RZ.R RZ.D c m d q e f K g M i S j a0 a1 k l=some o):J2 RZ c m d q e f K g M i S j a0 a1 k l=some o:=aa9 (by kernel_rfl) ((ah0 RZ ..).trans h)
theorem aH9 {o}(h:J3b RZ.R RZ.D a=some o):J3 RZ a=some o:=aa9 (by kernel_rfl) ((aw4 RZ ..).trans h)
theorem aS3 {o}(h:J4b RZ.R RZ.D a=some o):J4 RZ a=some o:=aa9 (by kernel_rfl) ((aF4 RZ ..).trans h)
theorem aM6 {o}(h:J5b RZ.R RZ.D a=some o):J5 RZ a=some o:=aa9 (by kernel_rfl) ((aA0 RZ ..).trans h)
end
end ak0
namespace aq5
section
variable (a:B)(c:W)
def b:Q->D->B->W->R:=fun _ _ a c=>bif (!a) then retR [vL false 1 []] [] else apK [] c 16 (retR [vL true 1 ([]++c)] [])
theorem b_eq:ac7 Z 95 [vL a 1 c] []=b Z.R Z.D a c:=by kernel_rfl
theorem b_of {o}(h:b RZ.R RZ.D a c=some o):RZ.R an9 [vL a 1 c] []=some o:=ab7 ((b_eq RZ ..).trans h)
end
end aq5
namespace aa7
section
variable (a c:V)(d:Lo)(e:Int)(f:Lo)
def L0P:List Nat:=[0,1]
def L0F:St:=⟨mkT 19 [(0,a,.no),(1,vR [c],.no),(3,vI e,.no)],mkA 0 [],0,[],f,[]⟩
def L0:=Z.X 101 .body L0P (L0F a c e f)
def b:Q->D->Ti7->V->V->Lo->R:=fun _ _ f a c d=>ck (V.good c) ((lnV c).bind fun e=>f a c (w6 (e-z1)) d)
theorem b_eq:ac7 Z 101 [a,vR [c]] d=b Z.R Z.D (L0 Z) a c d:=by kernel_rfl
def L0b:Q->D->Ti7->Ti7:=fun x _ w a c e f=>bif (decide (e>=0)) then ck (V.good c) ((ixV 3 c e).bind fun d=>ck (bn5 d) (ldA f d 3 fun i=>aA (vA i) fun j=>aC j fun k l=>aS k fun m=>aC l fun n p=>aI n fun q=>aC p fun r s=>aB r fun t=>aN s (aV9 x a [vI e,vA [vS m,vI q,vB t]] f (fun u g=>aB u fun v=>bif (!v) then retR [] g else w a c (w6 (e-z1)) g) panK))) else retR [] f
theorem ag9:ae4 Z 101 .body L0P (L0F a c e f)=L0b Z.R Z.D (L0 Z) a c e f:=by kernel_rfl
theorem b_of {o}(h:b RZ.R RZ.D (L0 RZ) a c d=some o):RZ.R aD0 [a,vR [c]] d=some o:=ab7 ((b_eq RZ ..).trans h)
theorem ag6 {o}(h:L0b RZ.R RZ.D (L0 RZ) a c e f=some o):L0 RZ a c e f=some o:=ac9 ((ag9 RZ ..).trans h)
end
end aa7
end
end Go.Proofs.YtflhfchgdpbhcaaGreat.E
