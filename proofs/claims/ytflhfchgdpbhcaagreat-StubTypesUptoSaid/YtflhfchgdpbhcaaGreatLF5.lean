/- It is proved of functions that StubTypes reaches what their evaluation is, in plain words. No condition. -/
import Derived.Test.YtflhfchgdpbhcaaGreatLH
set_option maxRecDepth 100000
set_option maxHeartbeats 40000
namespace Go.Proofs.YtflhfchgdpbhcaaGreat.E
open Go
noncomputable section
abbrev Tf0:=Y->B->Int->Y->Y->Int->Int->B->W->B->W->B->W->B->W->B->W->B->W->R
abbrev Tf1:=B->W->Int->Int->W->W->W->W->B->W->B->W->W->W->R
abbrev Tf2:=Int->Y->Y->Int->Int->B->W->B->W->B->W->B->W->R
abbrev Tf3:=Int->Int->B->W->Int->Int->R
abbrev Tf4:=Nat->V->Int->Lo->R
abbrev Tf5:=Nat->Y->Nat->Nat->V->Int->Y->Int->B->Lo->R
abbrev Tf6:=Int->Y->Y->Int->Int->B->W->B->W->B->W->B->W->B->R
abbrev Tf7:=Int->Y->Y->Int->Int->B->W->B->W->B->W->B->W->B->W->Int->Int->R
abbrev Tf8:=Int->Y->Y->Int->Int->B->W->B->W->B->W->B->W->B->W->Int->Int->B->R
abbrev Tf9:=Int->Y->Y->Int->Int->B->W->B->W->B->W->B->W->B->W->B->W->Int->Int->R
abbrev Tf10:=Int->Y->Y->Int->Int->B->W->B->W->B->W->B->W->B->W->Int->B->W->Int->Int->B->W->Int->Int->R
variable (Z:Env)
namespace aX5
section
variable (a:Y)(c:B)(d:Int)(e f:Y)(g i:Int)(j:B)(k:W)(l:B)(m:W)(n:B)(p:W)(q:B)(r:W)(s:B)(t:W)(u:B)(v:W)
def b:Q->D->Tf0:=fun d3 _ a c d e f g i j k l m n p q r s t u v=>ck (aa0 [vA [vS a,vB c,vI d,vS e,vS f,vI g,vI i,vL j 1 k,vL l 9 m,vL n 1 p,vL q 3 r,vL s 11 t,vL u 9 v],vB true]) (aH8 (d3 aH1 [vA [vS a,vB c,vI d,vS e,vS f,vI g,vI i,vL j 1 k,vL l 9 m,vL n 1 p,vL q 3 r,vL s 11 t,vL u 9 v],vB true] []) (fun w=>aT w fun x=>aC x fun y z=>aA y fun A=>aTy A fun F K P X a2 a5 a6 a9 c0 c3 c4 c7 c8=>(aC z fun c9 d0=>aI c9 fun d1=>aN d0 (retR [vT F K P X a2 a5 a6 a9 c0 c3 c4 c7 c8,vI d1] []))) fun d2=>panK d2 [])
theorem b_eq:ac7 Z 8 [vA [vS a,vB c,vI d,vS e,vS f,vI g,vI i,vL j 1 k,vL l 9 m,vL n 1 p,vL q 3 r,vL s 11 t,vL u 9 v]] []=b Z.R Z.D a c d e f g i j k l m n p q r s t u v:=by kernel_rfl
theorem b_of {o}(h:b RZ.R RZ.D a c d e f g i j k l m n p q r s t u v=some o):RZ.R aC9 [vA [vS a,vB c,vI d,vS e,vS f,vI g,vI i,vL j 1 k,vL l 9 m,vL n 1 p,vL q 3 r,vL s 11 t,vL u 9 v]] []=some o:=ab7 ((b_eq RZ ..).trans h)
end
end aX5
namespace af5
section
variable (a:B)(c:W)(d e:Int)(f g i j:W)(k:B)(l:W)(m:B)(n p q:W)(r:Y)(s:B)(t:Int)(u v:Y)(w x:Int)(y:B)(z:W)(A:B)(C:W)(E:B)(F:W)(G:B)(H:W)(K:B)(L:W)(M:B)(P:W)
def L0P:List Nat:=[0,1,0,1,1]
def L0F:St:=⟨mkT 39 [(2,V.loc 0 0,.no),(3,V.loc 1 0,.no),(8,vL a 11 c,.no),(9,vI d,.no),(10,vI e,.no)],mkA 3 [(0,[(vI 0,.no),(vS (⟨#[]⟩:ByteArray),.no),(vS (⟨#[]⟩:ByteArray),.no),(vI 0,.no),(vI 0,.no),(vL false 1 f,.full),(vL false 9 g,.full),(vL false 1 i,.full),(vL false 3 j,.full)]),(1,[(vI 10,.no),(vS (⟨#[113,117,101,115,116,105,111,110]⟩:ByteArray),.no),(vS (⟨#[81,117,101,115,116,105,111,110]⟩:ByteArray),.no),(vI 0,.no),(vI 0,.no),(vL k 1 l,.tok 0),(vL m 9 n,.tok 1),(vL false 1 p,.full),(vL false 3 q,.full)])],2,[0,1],[],[]⟩
def L0:=Z.X 18 .body L0P (L0F a c d e f g i j k l m n p q)
def J1P:List Nat:=[1,1,0,0,1,1,0,0,1,0,1,1]
def J1F:St:=⟨mkT 39 [(2,V.loc 0 0,.no),(3,V.loc 1 0,.no),(8,vL a 11 c,.no),(9,vI d,.no),(10,vI e,.no)],mkA 3 [(0,[(vI 0,.no),(vS (⟨#[]⟩:ByteArray),.no),(vS (⟨#[]⟩:ByteArray),.no),(vI 0,.no),(vI 0,.no),(vL false 1 f,.full),(vL false 9 g,.full),(vL false 1 i,.full),(vL false 3 j,.full)]),(1,[(vI 10,.no),(vS (⟨#[113,117,101,115,116,105,111,110]⟩:ByteArray),.no),(vS (⟨#[81,117,101,115,116,105,111,110]⟩:ByteArray),.no),(vI 0,.no),(vI 0,.no),(vL k 1 l,.tok 0),(vL m 9 n,.tok 1),(vL false 1 p,.full),(vL false 3 q,.full)])],2,[0,1],[],[]⟩
def J1:=Z.X 18 .body J1P (J1F a c d e f g i j k l m n p q)
def b:Q->D->Tf1->Tf0:=fun _ _ a _ _ _ _ _ _ _ _ _ _ _ _ _ _ _ K L _ _=>a K L (L.length:Int) z0 [] [] [] [] false [] false [] [] []
theorem b_eq:ac7 Z 18 [vA [vS r,vB s,vI t,vS u,vS v,vI w,vI x,vL y 1 z,vL A 9 C,vL E 1 F,vL G 3 H,vL K 11 L,vL M 9 P]] []=b Z.R Z.D (L0 Z) r s t u v w x y z A C E F G H K L M P:=by kernel_rfl
def L0b:Q->D->Tf1->Tf1:=fun g0 _ f9 a c d e f g i j k l m n p q=>bif (decide (e<d)) then idxK c e fun a5=>aC (V.cells a5) fun a6 a7=>aS a6 fun r=>aC a7 fun a8 a9=>aI a8 fun c0=>aTy a9 fun H K L M P S T X a0 a1 a2 a3 a4=>(bif (c0 !=(2:Int)) then apK l [vS r] 16 (ck (aa0 [vT H K L M P S T X a0 a1 a2 a3 a4]) (cP (g0 ar6 [vT H K L M P S T X a0 a1 a2 a3 a4] []) (fun d9=>aA d9 fun e0=>aTy e0 fun s t u v w x y z A C E F G=>(apK n [vT s t u v w x y z A C E F G] 152 (f9 a c d e f g i j (k||![vS r].isEmpty) (l++[vS r]) (m||![vT s t u v w x y z A C E F G].isEmpty) (n++[vT s t u v w x y z A C E F G]) p q))) fun _=>none)) else f9 a c d e f g i j k l m n p q) else bif ((n.length:Int)==z0) then retR [vT 0 (⟨#[]⟩:ByteArray) (⟨#[]⟩:ByteArray) 0 0 false [] false [] false [] false []] [] else retR [vA [vI 10,vS (⟨#[113,117,101,115,116,105,111,110]⟩:ByteArray),vS (⟨#[81,117,101,115,116,105,111,110]⟩:ByteArray),vI 0,vI 0,vL k 1 l,vL m 9 n,vL false 1 p,vL false 3 q]] []
theorem ag9:ae4 Z 18 .body L0P (L0F a c d e f g i j k l m n p q)=L0b Z.R Z.D (J1 Z) a c d e f g i j k l m n p q:=by kernel_rfl
def J1b:Q->D->Tf1->Tf1:=fun _ _ r a c d e f g i j k l m n p q=>r a c d (w6 (e+z1)) f g i j k l m n p q
theorem ak2:ac5 Z 18 .body J1P (J1F a c d e f g i j k l m n p q)=J1b Z.R Z.D (L0 Z) a c d e f g i j k l m n p q:=by kernel_rfl
theorem b_of {o}(h:b RZ.R RZ.D (L0 RZ) r s t u v w x y z A C E F G H K L M P=some o):RZ.R aE9 [vA [vS r,vB s,vI t,vS u,vS v,vI w,vI x,vL y 1 z,vL A 9 C,vL E 1 F,vL G 3 H,vL K 11 L,vL M 9 P]] []=some o:=ab7 ((b_eq RZ ..).trans h)
theorem ag6 {o}(h:L0b RZ.R RZ.D (J1 RZ) a c d e f g i j k l m n p q=some o):L0 RZ a c d e f g i j k l m n p q=some o:=ac9 ((ag9 RZ ..).trans h)
theorem an7 {o}(h:J1b RZ.R RZ.D (L0 RZ) a c d e f g i j k l m n p q=some o):J1 RZ a c d e f g i j k l m n p q=some o:=aa9 (by kernel_rfl) ((ak2 RZ ..).trans h)
end
end af5
namespace bc1
section
variable (a:Int)(c d:Y)(e f:Int)(g:B)(i:W)(j:B)(k:W)(l:B)(m:W)(n:B)(p:W)
def b:Q->D->Tf2:=fun t _ a c d e f g i j k l m n p=>cS (t aj1 [vO 0 0,vT a c d e f g i j k l m n p,vI 1] [O.box [(vI 0,false),(vL false 0 [],true)]]) (fun q r=>aB q fun s=>retR [vB s] r) panK
theorem b_eq:ac7 Z 24 [vT a c d e f g i j k l m n p] []=b Z.R Z.D a c d e f g i j k l m n p:=by kernel_rfl
theorem b_of {o}(h:b RZ.R RZ.D a c d e f g i j k l m n p=some o):RZ.R av1 [vT a c d e f g i j k l m n p] []=some o:=ab7 ((b_eq RZ ..).trans h)
end
end bc1
namespace aK4
section
variable (a:B)(c:Int)(d e:Y)(f g:Int)(i:B)(j:W)(k:B)(l:W)(m:B)(n:W)(p:B)(q:W)
def J0P:List Nat:=[0,1]
def J0F:St:=⟨mkT 15 [(2,vB a,.no)],mkA 0 [],0,[],[],[]⟩
def J0:=Z.X 28 .body J0P (J0F a)
def b:Q->D->(B->R)->Tf2:=fun u _ t c d e f g i j k l m n p q=>ck (aa0 [vT c d e f g i j k l m n p q]) (cP (u am9 [vT c d e f g i j k l m n p q] []) (fun a=>aB a fun r=>bif r then bif (c !=z0) then t (c !=(15:Int)) else t false else t false) fun s=>panK s [])
theorem b_eq:ac7 Z 28 [vT c d e f g i j k l m n p q] []=b Z.R Z.D (J0 Z) c d e f g i j k l m n p q:=by kernel_rfl
def J0b:Q->D->B->R:=fun _ _ a=>retR [vB a] []
theorem ab9:ac5 Z 28 .body J0P (J0F a)=J0b Z.R Z.D a:=by kernel_rfl
theorem b_of {o}(h:b RZ.R RZ.D (J0 RZ) c d e f g i j k l m n p q=some o):RZ.R aH3 [vT c d e f g i j k l m n p q] []=some o:=ab7 ((b_eq RZ ..).trans h)
theorem ad0 {o}(h:J0b RZ.R RZ.D a=some o):J0 RZ a=some o:=aa9 (by kernel_rfl) ((ab9 RZ ..).trans h)
end
end aK4
namespace ar5
section
variable (a c:Int)(d:B)(e:W)(f g i:Int)(j k:Y)(l m:Int)(n:B)(p:W)(q:B)(r:W)(s:B)(t:W)(u:B)(v:W)(w x:Int)
def L0P:List Nat:=[0,1,0,1,1,1]
def L0F:St:=⟨mkT 30 [(1,vI a,.no),(2,vI c,.no),(14,vL d 9 e,.no),(15,vI f,.no),(16,vI g,.no)],mkA 1 [],0,[],[],[]⟩
def L0:=Z.X 54 .body L0P (L0F a c d e f g)
def b:Q->D->Tf3->Int->Y->Y->Int->Int->B->W->B->W->B->W->B->W->Int->Int->R:=fun _ _ a _ _ _ _ _ _ _ q r _ _ _ _ w x=>bif (decide (w>16)) then retR [vI 301] [] else a w (w6 (x+z1)) q r (r.length:Int) z0
theorem b_eq:ac7 Z 54 [vT i j k l m n p q r s t u v,vI w,vI x] []=b Z.R Z.D (L0 Z) i j k l m n p q r s t u v w x:=by kernel_rfl
def L0b:Q->D->Tf3->Tf3:=fun a6 _ a5 a c d e f g=>bif (decide (g<f)) then idxK e g fun w=>aTy (V.cells w) fun i j k l m n p q r s t u v=>(bif (decide (c>300)) then retR [vI c] [] else ck (aa0 [vT i j k l m n p q r s t u v,vI (w6 (a+z1)),vI c]) (cP (a6 aw9 [vT i j k l m n p q r s t u v,vI (w6 (a+z1)),vI c] []) (fun a2=>aI a2 fun a3=>a5 a a3 d e f (w6 (g+z1))) fun a4=>panK a4 [])) else retR [vI c] []
theorem ag9:ae4 Z 54 .body L0P (L0F a c d e f g)=L0b Z.R Z.D (L0 Z) a c d e f g:=by kernel_rfl
theorem b_of {o}(h:b RZ.R RZ.D (L0 RZ) i j k l m n p q r s t u v w x=some o):RZ.R aw9 [vT i j k l m n p q r s t u v,vI w,vI x] []=some o:=ab7 ((b_eq RZ ..).trans h)
theorem ag6 {o}(h:L0b RZ.R RZ.D (L0 RZ) a c d e f g=some o):L0 RZ a c d e f g=some o:=ac9 ((ag9 RZ ..).trans h)
end
end ar5
namespace ab6
def J1P:List Nat:=[0,0]
def J1F (s1:ByteArray)(i2 i3:Nat)(v4:V)(n5:Int)(s6:ByteArray)(n7:Int)(b8:Bool)(s9:List O):St:=⟨mkT 40 [(3,vR [vS s1],.no),(4,vO i2 0,.no),(5,vO i3 0,.no),(7,V.loc 0 0,.no),(12,v4,.no),(13,vI n5,.no)],mkA 1 [(0,[(vS s6,.no),(vI n7,.no),(vB b8,.no)])],0,[],s9,[]⟩
def J1 (Z:Env)(y:Nat):=fun s1 i2 i3 v4 n5 s6 n7 b8 s9=>Z.X 77 (.round y [13,14]) J1P (J1F s1 i2 i3 v4 n5 s6 n7 b8 s9)
def J2P:List Nat:=[0,0,1,1,0]
def J2F (v1:V)(n2:Int)(s3:List O):St:=⟨mkT 40 [(12,v1,.no),(13,vI n2,.no)],mkA 1 [],0,[],s3,[]⟩
def J2 (Z:Env)(y:Nat):=fun v1 n2 s3=>Z.X 77 (.round y [13,14]) J2P (J2F v1 n2 s3)
def b (rr:Rec)(_dd:Option V->Rec)(i1 o2:Nat)(a3:ByteArray)(s:List O):R:=wrO ((s++[O.box [(vB false,false)]])++[O.box [(vB false,false)]]) (s++[O.box [(vB false,false)]]).length 0 [(vB false,false)] fun s4=>rd1 s4 i1 (o2+1) fun v5=>ck ([v5].all am0) (cS (rr ag5 [v5] s4) (fun v6 s7=>rgF rr v6 s7 77 [13,14] [vN,vN,vN,vR [vS a3],vO s.length 0,vO (s++[O.box [(vB false,false)]]).length 0,vN,vN,vN,vN,vN,vN,bg5 v6,vN,vN,vN,vN,vN,vN,vN,vN,vN,vN,vN,vN,vN,vN,vN,vN,vN,vN,vN,vN,vN,vN,vN,vN,vN,vN,vN] (fun s8 p=>jK p (wrO s8 s.length 0 [(vB false,false)] fun s9=>rd1 s9 s.length 0 fun v10=>retK [v10] s9) (rd1 s8 s.length 0 fun v11=>retK [v11] s8) fun _=>none) fun v13 s14=>panK v13 s14) panK)
theorem b_eq (Z:Env) i1 o2 a3 s:ac7 Z 77 [vO i1 o2,vS a3] s=b Z.R Z.D i1 o2 a3 s:=by kernel_rfl
def J1b (_rr:Rec)(_dd:Option V->Rec)(jJ2:Nat->V->Int->List O->R)(y:Nat)(s1:ByteArray)(i2 i3:Nat)(v4:V)(n5:Int)(s6:ByteArray)(n7:Int)(_b8:Bool)(s9:List O):R:=bif (s6.toList==s1.toList) then bif (n7==(17:Int)) then wrO s9 i2 0 [(vB true,false)] fun s10=>ck (nlB 0 [(v4,.no)]) (jJ2 y v4 n5 s10) else rd1 s9 i3 0 fun v11=>aB v11 fun b12=>bif b12 then bif (n7==(10:Int)) then wrO s9 i2 0 [(vB true,false)] fun s13=>ck (nlB 0 [(v4,.no)]) (jJ2 y v4 n5 s13) else wrO s9 i2 0 [(vB (n7==(11:Int)),false)] fun s14=>ck (nlB 0 [(v4,.no)]) (jJ2 y v4 n5 s14) else wrO s9 i2 0 [(vB false,false)] fun s15=>ck (nlB 0 [(v4,.no)]) (jJ2 y v4 n5 s15) else ck (nlB 0 [(v4,.no)]) (endK s9 y none)
theorem ak2 (Z:Env) y s1 i2 i3 v4 n5 s6 n7 b8 s9:ac5 Z 77 (.round y [13,14]) J1P (J1F s1 i2 i3 v4 n5 s6 n7 b8 s9)=J1b Z.R Z.D (J2 Z) y s1 i2 i3 v4 n5 s6 n7 b8 s9:=by kernel_rfl
def J2b (_rr:Rec)(_dd:Option V->Rec)(y:Nat)(_v1:V)(_n2:Int)(s3:List O):R:=endK s3 y (some none)
theorem ah0 (Z:Env) y v1 n2 s3:ac5 Z 77 (.round y [13,14]) J2P (J2F v1 n2 s3)=J2b Z.R Z.D y v1 n2 s3:=by kernel_rfl
def R0b (_rr:Rec)(_dd:Option V->Rec)(jJ1:Nat->ByteArray->Nat->Nat->V->Int->ByteArray->Int->Bool->List O->R)(y:Nat)(s1:ByteArray)(i2 i3:Nat)(v4:V)(s5:List O)(a6:Int)(a7:ByteArray)(a8:Int)(a9:Bool):R:=begK s5 y fun s10=>rd1 s10 i3 0 fun v11=>aB v11 fun b12=>bif b12 then wrO s10 i3 0 [(vB true,false)] fun s13=>jJ1 y s1 i2 i3 v4 a6 a7 a8 a9 s13 else wrO s10 i3 0 [(vB a9,false)] fun s14=>jJ1 y s1 i2 i3 v4 a6 a7 a8 a9 s14
theorem R0b_eq (Z:Env) y s1 i2 i3 v4 s5 a6 a7 a8 a9:ROUNDYZ Z 77 y [13,14] [vI a6,vA [vS a7,vI a8,vB a9]] [vN,vN,vN,vR [vS s1],vO i2 0,vO i3 0,vN,vN,vN,vN,vN,vN,v4,vN,vN,vN,vN,vN,vN,vN,vN,vN,vN,vN,vN,vN,vN,vN,vN,vN,vN,vN,vN,vN,vN,vN,vN,vN,vN,vN] s5=R0b Z.R Z.D (J1 Z) y s1 i2 i3 v4 s5 a6 a7 a8 a9:=by kernel_rfl
theorem b_of i1 o2 a3 s {o}(h:b RZ.R RZ.D i1 o2 a3 s=some o):RZ.R am2 [vO i1 o2,vS a3] s=some o:=ab7 ((b_eq RZ i1 o2 a3 s).trans h)
theorem an7 y s1 i2 i3 v4 n5 s6 n7 b8 s9 {o}(h:J1b RZ.R RZ.D (J2 RZ) y s1 i2 i3 v4 n5 s6 n7 b8 s9=some o):J1 RZ y s1 i2 i3 v4 n5 s6 n7 b8 s9=some o:=aa9 (by kernel_rfl) ((ak2 RZ y s1 i2 i3 v4 n5 s6 n7 b8 s9).trans h)
theorem ak5 y v1 n2 s3 {o}(h:J2b RZ.R RZ.D y v1 n2 s3=some o):J2 RZ y v1 n2 s3=some o:=aa9 (by kernel_rfl) ((ah0 RZ y v1 n2 s3).trans h)
end ab6
namespace aj0
section
variable (a:B)(c:W)(d:V)(e:Lo)
def b:Q->D->B->W->V->Lo->R:=fun j _ a c d e=>ck ([vL a 3 c,d].all am0) (cS (j aj6 [vL a 3 c,d] e) (fun f g=>aI f fun i=>retR [vB (decide (i>=0))] g) panK)
theorem b_eq:ac7 Z 88 [vL a 3 c,d] e=b Z.R Z.D a c d e:=by kernel_rfl
theorem b_of {o}(h:b RZ.R RZ.D a c d e=some o):RZ.R ae0 [vL a 3 c,d] e=some o:=ab7 ((b_eq RZ ..).trans h)
end
end aj0
namespace ab3
section
variable (f:Int)(g i:Y)(j k:Int)(w:B)(x:Int)(y z:Y)(A C:Int)(a:B)(E l:W)(c:B)(F m:W)(d:B)(G n:W)(e:B)(H p:W)(q:B)(r:W)(s t:Int)(K L:B)(M:W)(P:B)(S:W)(T u X:Int)(a0:B)(a1:W)(a2 a3:Int)(v:B)
def J0P:List Nat:=[0,0,1,1,1]
def J0F:St:=⟨mkT 151 [(1,vQ f g i j k a l c m d n e p,.no),(66,vB v,.no)],mkA 0 [],0,[],[],[]⟩
def J0:=Z.X 93 .body J0P (J0F f g i j k a l c m d n e p v)
def L1P:List Nat:=[0,1,0,1,1,1,1]
def L1F:St:=⟨mkT 151 [(1,vQ f g i j k a l c m d n e p,.no),(68,vL q 1 r,.no),(69,vI s,.no),(70,vI t,.no)],mkA 0 [],0,[],[],[]⟩
def L1:=Z.X 93 .body L1P (L1F f g i j k a l c m d n e p q r s t)
def J2P:List Nat:=[0,1,0,0,1,1,0,0,1,0,1,1,1,1]
def J2F:St:=⟨mkT 151 [(1,vQ f g i j k a l c m d n e p,.no),(68,vL q 1 r,.no),(69,vI s,.no),(70,vI t,.no),(83,vB K,.no)],mkA 0 [],0,[],[],[]⟩
def J2:=Z.X 93 .body J2P (J2F f g i j k a l c m d n e p q r s t K)
def L3P:List Nat:=[0,1,0,1,1,1,1,1,1]
def L3F:St:=⟨mkT 151 [(1,vQ f g i j k a l c m d n e p,.no),(6,vL q 1 r,.no),(87,vL P 1 S,.no),(88,vI T,.no),(89,vI u,.no)],mkA 0 [],0,[],[],[]⟩
def L3:=Z.X 93 .body L3P (L3F f g i j k a l c m d n e p q r P S T u)
def L4P:List Nat:=[0,1,1,1,0,0,1,1,0,0,1,0,1,1,1,1,1,1]
def L4F:St:=⟨mkT 151 [(1,vQ f g i j k a l c m d n e p,.no),(6,vL q 1 r,.no),(8,vI s,.no),(87,vL L 1 M,.no),(88,vI u,.no),(89,vI X,.no),(103,vL a0 1 a1,.no),(104,vI a2,.no),(105,vI a3,.no)],mkA 0 [],0,[],[],[]⟩
def L4:=Z.X 93 .body L4P (L4F f g i j k a l c m d n e p q r s L M u X a0 a1 a2 a3)
def J5P:List Nat:=[0,1,1,1,1,1,1,1]
def J5F:St:=⟨mkT 151 [(1,vQ f g i j k a l c m d n e p,.no),(11,vB v,.no)],mkA 0 [],0,[],[],[]⟩
def J5:=Z.X 93 .body J5P (J5F f g i j k a l c m d n e p v)
def J6P:List Nat:=[0,1,1,1,1,1,1,1,1]
def J6F:St:=⟨mkT 151 [(2,vB w,.no)],mkA 0 [],0,[],[],[]⟩
def J6:=Z.X 93 .body J6P (J6F w)
def b:Q->D->Tf6->Tf2:=fun g4 _ g3 x y z A C a E c F d G e H=>ck (aa0 [vT x y z A C a E c F d G e H]) (cP (g4 aA5 [vT x y z A C a E c F d G e H] []) (fun a3=>aL 1 a3 fun _ a4=>bif (decide ((a4.length:Int)>256)) then retR [vB false] [] else bif (decide ((w6 ((F.length:Int)-z1))<1)) then g3 x y z A C a E c F d G e H true else bif (decide ((w6 ((F.length:Int)-z1))>24)) then g3 x y z A C a E c F d G e H true else idxK F z0 fun a5=>aTy (V.cells a5) fun f g i j k l m n p q r s t=>(ck (aa0 [vT f g i j k l m n p q r s t]) (cP (g4 aN4 [vT f g i j k l m n p q r s t] []) (fun d4=>aB d4 fun d5=>bif (!d5) then g3 x y z A C a E c F d G e H true else idxK F z0 fun d6=>aTy (V.cells d6) fun u v w K L M P S T X a0 a1 a2=>(ck (aa0 [vT u v w K L M P S T X a0 a1 a2,vL false 0 [],vI 1]) (cP (g4 aj2 [vT u v w K L M P S T X a0 a1 a2,vL false 0 [],vI 1] []) (fun f5=>aB f5 fun f6=>bif (!f6) then g3 x y z A C a E c F d G e H true else ck (aa0 [vL a 1 E,vI (w6 ((F.length:Int)-z1))]) (cP (g4 aq1 [vL a 1 E,vI (w6 ((F.length:Int)-z1))] []) (fun f7=>aB f7 fun f8=>bif (!f8) then g3 x y z A C a E c F d G e H true else bif ((G.length:Int) !=(w6 ((F.length:Int)-z1))) then g3 x y z A C a E c F d G e H true else bif (decide (A<(-1))) then g3 x y z A C a E c F d G e H true else g3 x y z A C a E c F d G e H (decide (A>=(w6 ((F.length:Int)-z1))))) fun f9=>panK f9 [])) fun g0=>panK g0 []))) fun g1=>panK g1 []))) fun g2=>panK g2 [])
theorem b_eq:ac7 Z 93 [vT x y z A C a E c F d G e H] []=b Z.R Z.D (J0 Z) x y z A C a E c F d G e H:=by kernel_rfl
def J0b:Q->D->Tf7->Tf6:=fun _ _ q f g i j k a l c m d n e p v=>bif v then retR [vB false] [] else q f g i j k a l c m d n e p d n (n.length:Int) z0
theorem ab9:ac5 Z 93 .body J0P (J0F f g i j k a l c m d n e p v)=J0b Z.R Z.D (L1 Z) f g i j k a l c m d n e p v:=by kernel_rfl
def L1b:Q->D->Tf8->Tf9->Tf7:=fun G _ E F f g i j k a l c m d n e p q r s t=>bif (decide (t<s)) then idxK r t fun w=>aC (V.cells w) fun x y=>aL 1 x fun _ z=>aN y (bif ((z.length:Int)==z0) then E f g i j k a l c m d n e p q r s t (t !=j) else E f g i j k a l c m d n e p q r s t false) else ck (aa0 [vT f g i j k a l c m d n e p]) (cP (G aA5 [vT f g i j k a l c m d n e p] []) (fun A=>aL 1 A fun v u=>F f g i j k a l c m d n e p v u v u (u.length:Int) z0) fun C=>panK C [])
theorem ak9:ae4 Z 93 .body L1P (L1F f g i j k a l c m d n e p q r s t)=L1b Z.R Z.D (J2 Z) (L3 Z) f g i j k a l c m d n e p q r s t:=by kernel_rfl
def J2b:Q->D->Tf7->Tf8:=fun _ _ u f g i j k a l c m d n e p q r s t K=>bif K then retR [vB false] [] else u f g i j k a l c m d n e p q r s (w6 (t+z1))
theorem ah0:ac5 Z 93 .body J2P (J2F f g i j k a l c m d n e p q r s t K)=J2b Z.R Z.D (L1 Z) f g i j k a l c m d n e p q r s t K:=by kernel_rfl
def L3b:Q->D->Tf10->Tf6->Tf9:=fun q4 _ q2 q3 f g i j k a l c m d n e p q r P S T u=>bif (decide (u<T)) then idxK S u fun L=>aC (V.cells L) fun M X=>aI M fun s=>aN X (idxK m z0 fun a0=>aTy (V.cells a0) fun t v w x y z A C E F G H K=>(ck (aa0 [vT t v w x y z A C E F G H K,vI s]) (cP (q4 aU7 [vT t v w x y z A C E F G H K,vI s] []) (fun c9=>aB c9 fun d0=>bif (!d0) then retR [vB false] [] else ck (decide (0<=z0)&&(decide (z0<=u)&&decide (u<=(r.length:Int)))) (q2 f g i j k a l c m d n e p q r s P S T u q ((r.take u.toNat).drop z0.toNat) (((r.take u.toNat).drop z0.toNat).length:Int) z0)) fun d1=>panK d1 []))) else idxK m z0 fun d2=>aTy (V.cells d2) fun d5 _ _ _ _ _ _ _ _ _ _ _ _=>(bif (d5==z1) then bif ((r.length:Int)==(2:Int)) then q3 f g i j k a l c m d n e p true else idxK m z0 fun f2=>aTy (V.cells f2) fun f5 _ _ _ _ _ _ _ _ _ _ _ _=>(bif (f5==(9:Int)) then idxK m z0 fun j2=>aTy (V.cells j2) fun _ _ _ _ _ _ k5 _ _ _ _ _ _=>(q3 f g i j k a l c m d n e p ((r.length:Int)==(k5.length:Int))) else q3 f g i j k a l c m d n e p false) else idxK m z0 fun l2=>aTy (V.cells l2) fun l5 _ _ _ _ _ _ _ _ _ _ _ _=>(bif (l5==(9:Int)) then idxK m z0 fun n2=>aTy (V.cells n2) fun _ _ _ _ _ _ p5 _ _ _ _ _ _=>(q3 f g i j k a l c m d n e p ((r.length:Int)==(p5.length:Int))) else q3 f g i j k a l c m d n e p false))
theorem aV1:ae4 Z 93 .body L3P (L3F f g i j k a l c m d n e p q r P S T u)=L3b Z.R Z.D (L4 Z) (J5 Z) f g i j k a l c m d n e p q r P S T u:=by kernel_rfl
def L4b:Q->D->Tf9->Tf10->Tf10:=fun _ _ y z f g i j k a l c m d n e p q r s L M u X a0 a1 a2 a3=>bif (decide (a3<a2)) then idxK a1 a3 fun t=>aC (V.cells t) fun v w=>aI v fun x=>aN w (bif (s==x) then retR [vB false] [] else z f g i j k a l c m d n e p q r s L M u X a0 a1 a2 (w6 (a3+z1))) else y f g i j k a l c m d n e p q r L M u (w6 (X+z1))
theorem aF3:ae4 Z 93 .body L4P (L4F f g i j k a l c m d n e p q r s L M u X a0 a1 a2 a3)=L4b Z.R Z.D (L3 Z) (L4 Z) f g i j k a l c m d n e p q r s L M u X a0 a1 a2 a3:=by kernel_rfl
def J5b:Q->D->(B->R)->Tf6:=fun _ _ q _ _ _ j _ _ _ _ _ _ _ _ _ v=>bif (!v) then q true else q (j==((-1):Int))
theorem aA0:ac5 Z 93 .body J5P (J5F f g i j k a l c m d n e p v)=J5b Z.R Z.D (J6 Z) f g i j k a l c m d n e p v:=by kernel_rfl
def J6b:Q->D->B->R:=fun _ _ w=>retR [vB w] []
theorem aN8:ac5 Z 93 .body J6P (J6F w)=J6b Z.R Z.D w:=by kernel_rfl
theorem b_of {o}(h:b RZ.R RZ.D (J0 RZ) x y z A C a E c F d G e H=some o):RZ.R as6 [vT x y z A C a E c F d G e H] []=some o:=ab7 ((b_eq RZ ..).trans h)
theorem ad0 {o}(h:J0b RZ.R RZ.D (L1 RZ) f g i j k a l c m d n e p v=some o):J0 RZ f g i j k a l c m d n e p v=some o:=aa9 (by kernel_rfl) ((ab9 RZ ..).trans h)
theorem ak4 {o}(h:L1b RZ.R RZ.D (J2 RZ) (L3 RZ) f g i j k a l c m d n e p q r s t=some o):L1 RZ f g i j k a l c m d n e p q r s t=some o:=ac9 ((ak9 RZ ..).trans h)
theorem ak5 {o}(h:J2b RZ.R RZ.D (L1 RZ) f g i j k a l c m d n e p q r s t K=some o):J2 RZ f g i j k a l c m d n e p q r s t K=some o:=aa9 (by kernel_rfl) ((ah0 RZ ..).trans h)
theorem aT4 {o}(h:L3b RZ.R RZ.D (L4 RZ) (J5 RZ) f g i j k a l c m d n e p q r P S T u=some o):L3 RZ f g i j k a l c m d n e p q r P S T u=some o:=ac9 ((aV1 RZ ..).trans h)
theorem aE4 {o}(h:L4b RZ.R RZ.D (L3 RZ) (L4 RZ) f g i j k a l c m d n e p q r s L M u X a0 a1 a2 a3=some o):L4 RZ f g i j k a l c m d n e p q r s L M u X a0 a1 a2 a3=some o:=ac9 ((aF3 RZ ..).trans h)
theorem aM6 {o}(h:J5b RZ.R RZ.D (J6 RZ) f g i j k a l c m d n e p v=some o):J5 RZ f g i j k a l c m d n e p v=some o:=aa9 (by kernel_rfl) ((aA0 RZ ..).trans h)
theorem aV8 {o}(h:J6b RZ.R RZ.D w=some o):J6 RZ w=some o:=aa9 (by kernel_rfl) ((aN8 RZ ..).trans h)
end
end ab3
namespace aw0
section
variable (a:B)(c:W)
def b:Q->D->B->W->R:=fun _ _ a c=>bif (!a) then retR [vL false 1 []] [] else apK [] c 8 (retR [vL true 1 ([]++c)] [])
theorem b_eq:ac7 Z 97 [vL a 1 c] []=b Z.R Z.D a c:=by kernel_rfl
theorem b_of {o}(h:b RZ.R RZ.D a c=some o):RZ.R at1 [vL a 1 c] []=some o:=ab7 ((b_eq RZ ..).trans h)
end
end aw0
end
end Go.Proofs.YtflhfchgdpbhcaaGreat.E
