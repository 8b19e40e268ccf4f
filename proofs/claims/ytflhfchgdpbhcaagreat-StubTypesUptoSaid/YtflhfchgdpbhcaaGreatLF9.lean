/- It is proved of functions that StubTypes reaches what their evaluation is, in plain words. No condition. -/
import Derived.Test.YtflhfchgdpbhcaaGreatLH
set_option maxRecDepth 100000
set_option maxHeartbeats 40000
namespace Go.Proofs.YtflhfchgdpbhcaaGreat.E
open Go
noncomputable section
abbrev Tj0:=B->W->B->W->Int->Int->R
abbrev Tj1:=Int->Y->Y->Int->Int->B->W->B->W->B->W->B->W->B->W->Int->Int->R
abbrev Tj2:=B->W->Int->Y->Y->Int->Int->B->W->B->W->B->W->B->W->Int->B->R
abbrev Tj3:=Int->Y->Y->Int->Int->B->W->B->W->B->W->B->W->B->W->Int->Int->B->R
abbrev Tj4:=Int->Y->Y->Int->Int->B->W->B->W->B->W->B->W->R
abbrev Tj5:=B->Int->Y->Y->Int->Int->B->W->B->W->B->W->B->W->W->W->W->W->Lo->R
abbrev Tj6:=Int->Y->Y->Int->Int->B->W->B->W->B->W->B->W->B->R
abbrev Tj7:=Int->Y->Y->Int->Int->B->W->B->W->B->W->B->W->B->W->Int->Int->Lo->R
abbrev Tj8:=Int->Y->Y->Int->Int->B->W->B->W->B->W->B->W->B->W->Int->Int->B->Lo->R
variable (Z:Env)
namespace aP8
section
variable (a:Y)(c:B)(d:Int)(e f:Y)(g i:Int)(j:B)(k:W)(l:B)(m:W)(n:B)(p:W)(q:B)(r:W)(s:B)(t:W)(u:B)(v:W)
def b:Q->D->Y->B->Int->Y->Y->Int->Int->B->W->B->W->B->W->B->W->B->W->B->W->R:=fun d3 _ a c d e f g i j k l m n p q r s t u v=>ck (aa0 [vA [vS a,vB c,vI d,vS e,vS f,vI g,vI i,vL j 1 k,vL l 9 m,vL n 1 p,vL q 3 r,vL s 11 t,vL u 9 v],vB false]) (aH8 (d3 aH1 [vA [vS a,vB c,vI d,vS e,vS f,vI g,vI i,vL j 1 k,vL l 9 m,vL n 1 p,vL q 3 r,vL s 11 t,vL u 9 v],vB false] []) (fun w=>aT w fun x=>aC x fun y z=>aA y fun A=>aTy A fun F K P X a2 a5 a6 a9 c0 c3 c4 c7 c8=>(aC z fun c9 d0=>aI c9 fun d1=>aN d0 (retR [vT F K P X a2 a5 a6 a9 c0 c3 c4 c7 c8,vI d1] []))) fun d2=>panK d2 [])
theorem b_eq:ac7 Z 6 [vA [vS a,vB c,vI d,vS e,vS f,vI g,vI i,vL j 1 k,vL l 9 m,vL n 1 p,vL q 3 r,vL s 11 t,vL u 9 v]] []=b Z.R Z.D a c d e f g i j k l m n p q r s t u v:=by kernel_rfl
theorem b_of {o}(h:b RZ.R RZ.D a c d e f g i j k l m n p q r s t u v=some o):RZ.R ax8 [vA [vS a,vB c,vI d,vS e,vS f,vI g,vI i,vL j 1 k,vL l 9 m,vL n 1 p,vL q 3 r,vL s 11 t,vL u 9 v]] []=some o:=ab7 ((b_eq RZ ..).trans h)
end
end aP8
namespace law04_small
end law04_small
namespace at3
section
variable (a:B)(d e:W)(c:B)(f g:W)(i j:Int)
def L0P:List Nat:=[0,1,0,1,1]
def L0F:St:=⟨mkT 26 [(0,vL a 1 e,.no),(1,vL c 1 g,.no),(12,vI i,.no),(13,vI j,.no)],mkA 0 [],0,[],[],[]⟩
def L0:=Z.X 46 .body L0P (L0F a e c g i j)
def b:Q->D->Tj0->B->W->B->W->R:=fun _ _ e a d c f=>bif ((d.length:Int) !=(f.length:Int)) then retR [vB false] [] else e a d c f (d.length:Int) z0
theorem b_eq:ac7 Z 46 [vL a 1 d,vL c 1 f] []=b Z.R Z.D (L0 Z) a d c f:=by kernel_rfl
def L0b:Q->D->Tj0->Tj0:=fun _ _ r a e c g i j=>bif (decide (j<i)) then idxK e j fun d=>aC (V.cells d) fun f k=>aS f fun l=>aN k (idxK g j fun m=>aC (V.cells m) fun n p=>aS n fun q=>aN p (bif (!(l.toList==q.toList)) then retR [vB false] [] else r a e c g i (w6 (j+z1)))) else retR [vB true] []
theorem ag9:ae4 Z 46 .body L0P (L0F a e c g i j)=L0b Z.R Z.D (L0 Z) a e c g i j:=by kernel_rfl
theorem b_of {o}(h:b RZ.R RZ.D (L0 RZ) a d c f=some o):RZ.R aU8 [vL a 1 d,vL c 1 f] []=some o:=ab7 ((b_eq RZ ..).trans h)
theorem ag6 {o}(h:L0b RZ.R RZ.D (L0 RZ) a e c g i j=some o):L0 RZ a e c g i j=some o:=ac9 ((ag9 RZ ..).trans h)
end
end at3
namespace bc0
section
variable (a:Lo)
def b:Q->D->Lo->R:=fun g _ a=>cS (g aA7 [vI 1] a) (fun c e=>cS (g aA7 [vI 0] e) (fun d f=>ck (V.good c) (ck (V.good d) (ck ([V.func (.func 60) [] [],V.func (.func 60) [] [],V.func (.func 60) [] [],V.func (.func 60) [] [],V.func (.func 60) [] [],V.func (.func 60) [] [],V.func (.func 60) [] [],V.func (.func 65) [] [],V.func (.func 66) [] [],V.func (.func 67) [] [],c,V.func (.func 68) [] [],V.func (.func 70) [] [],V.func (.func 71) [] [],V.func (.func 72) [] [],d,V.func (.func 73) [] [],V.func (.func 74) [] [],V.func (.func 60) [] [],V.func (.func 60) [] [],V.func (.func 76) [] []].length==21&&ac8 [V.func (.func 60) [] [],V.func (.func 60) [] [],V.func (.func 60) [] [],V.func (.func 60) [] [],V.func (.func 60) [] [],V.func (.func 60) [] [],V.func (.func 60) [] [],V.func (.func 65) [] [],V.func (.func 66) [] [],V.func (.func 67) [] [],c,V.func (.func 68) [] [],V.func (.func 70) [] [],V.func (.func 71) [] [],V.func (.func 72) [] [],d,V.func (.func 73) [] [],V.func (.func 74) [] [],V.func (.func 60) [] [],V.func (.func 60) [] [],V.func (.func 76) [] []]&&21 !=0) (ck (ac8 [V.func (.func 60) [] [],V.func (.func 60) [] [],V.func (.func 60) [] [],V.func (.func 60) [] [],V.func (.func 60) [] [],V.func (.func 60) [] [],V.func (.func 60) [] [],V.func (.func 65) [] [],V.func (.func 66) [] [],V.func (.func 67) [] [],c,V.func (.func 68) [] [],V.func (.func 70) [] [],V.func (.func 71) [] [],V.func (.func 72) [] [],d,V.func (.func 73) [] [],V.func (.func 74) [] [],V.func (.func 60) [] [],V.func (.func 60) [] [],V.func (.func 76) [] []]) (retR [vA [V.func (.func 60) [] [],V.func (.func 60) [] [],V.func (.func 60) [] [],V.func (.func 60) [] [],V.func (.func 60) [] [],V.func (.func 60) [] [],V.func (.func 60) [] [],V.func (.func 65) [] [],V.func (.func 66) [] [],V.func (.func 67) [] [],c,V.func (.func 68) [] [],V.func (.func 70) [] [],V.func (.func 71) [] [],V.func (.func 72) [] [],d,V.func (.func 73) [] [],V.func (.func 74) [] [],V.func (.func 60) [] [],V.func (.func 60) [] [],V.func (.func 76) [] []]] f))))) panK) panK
theorem b_eq:ac7 Z 48 [] a=b Z.R Z.D a:=by kernel_rfl
theorem b_of {o}(h:b RZ.R RZ.D a=some o):RZ.R aH4 [] a=some o:=ab7 ((b_eq RZ ..).trans h)
end
end bc0
namespace aw2
def Db (_rr:Rec)(_dd:Option V->Rec)(p1:V)(s:List O):R:=ck (V.good p1) (aO p1 fun i2 o3=>ck (V.good p1) (aO p1 fun i4 o5=>rd1 s i4 (o5+1) fun v6=>ck (V.good p1) (aO p1 fun i7 o8=>rd1 s i7 (o8+1) fun v9=>(lnV v9).bind fun n10=>(slV 3 v6 none (some (vI (w6 (n10-z1))))).bind fun v11=>ck (V.good v11) (wrO s i2 (o3+1) [(v11,nilB v11)] fun s12=>retR [] s12))))
theorem Db_eq (Z:Env) p1 s:DBODYZ Z 52 [vR [p1]] s=Db Z.R Z.D p1 s:=by kernel_rfl
end aw2
namespace ad3
section
variable (k:Int)(l m:Y)(n p:Int)(u:B)(v:W)(w:Int)(x y:Y)(z A C:Int)(E F:Y)(G H:Int)(e:B)(K q:W)(a:B)(L f:W)(c:B)(M g:W)(d:B)(P i:W)(j:B)(S r:W)(s t:Int)(T X:B)
def L0P:List Nat:=[0,1,0,0,1,0,1]
def L0F:St:=⟨mkT 84 [(2,vQ k l m n p e q a f c g d i,.no),(13,vL j 3 r,.no),(14,vI s,.no),(15,vI t,.no)],mkA 2 [],0,[],[],[]⟩
def L0:=Z.X 56 .body L0P (L0F k l m n p e q a f c g d i j r s t)
def J1P:List Nat:=[0,1,0,0,1,1,0,0,1,0,0,1,0,1]
def J1F:St:=⟨mkT 84 [(2,vQ k l m n p e q a f c g d i,.no),(13,vL j 3 r,.no),(14,vI s,.no),(15,vI t,.no),(42,vB T,.no)],mkA 2 [],0,[],[],[]⟩
def J1:=Z.X 56 .body J1P (J1F k l m n p e q a f c g d i j r s t T)
def J2P:List Nat:=[0,0,1,1,1]
def J2F:St:=⟨mkT 84 [(1,vL u 3 v,.no),(2,vQ w x y z A a f c g d i j r,.no),(7,vI s,.no),(66,vB X,.no)],mkA 2 [],0,[],[],[]⟩
def J2:=Z.X 56 .body J2P (J2F u v w x y z A a f c g d i j r s X)
def L3P:List Nat:=[0,1,0,1,0,1,1,1,1]
def L3F:St:=⟨mkT 84 [(2,vQ k l m n p e q a f c g d i,.no),(70,vL j 3 r,.no),(71,vI s,.no),(72,vI t,.no)],mkA 2 [],0,[],[],[]⟩
def L3:=Z.X 56 .body L3P (L3F k l m n p e q a f c g d i j r s t)
def J4P:List Nat:=[1,0,1,1,1,1]
def J4F:St:=⟨mkT 84 [(2,vQ k l m n p e q a f c g d i,.no)],mkA 2 [],0,[],[],[]⟩
def J4:=Z.X 56 .body J4P (J4F k l m n p e q a f c g d i)
def b:Q->D->Tj1->Tj2->Int->Y->Y->Int->Int->B->W->B->W->B->W->B->W->B->W->R:=fun w _ u v C E F G H e K a L c M d P j S=>bif (C==(20:Int)) then u C E F G H e K a L c M d P j S (S.length:Int) z0 else cP (w at6 [vI C] []) (fun g=>aI g fun f=>bif ((w6 ((BitVec.ofInt IntKind.i64.bits f&&& BitVec.ofInt IntKind.i64.bits (2:Int)).toNat:Int)) !=z0) then cP (w av0 [vS F] []) (fun i=>aB i fun k=>bif (!k) then v j S C E F G H e K a L c M d P f true else bif ((w6 ((BitVec.ofInt IntKind.i64.bits f&&& BitVec.ofInt IntKind.i64.bits z1).toNat:Int)) !=z0) then cP (w aM0 [vS E] []) (fun l=>aB l fun m=>v j S C E F G H e K a L c M d P f (!m)) (fun n=>panK n []) else v j S C E F G H e K a L c M d P f false) (fun p=>panK p []) else bif ((w6 ((BitVec.ofInt IntKind.i64.bits f&&& BitVec.ofInt IntKind.i64.bits z1).toNat:Int)) !=z0) then cP (w aM0 [vS E] []) (fun q=>aB q fun r=>v j S C E F G H e K a L c M d P f (!r)) (fun s=>panK s []) else v j S C E F G H e K a L c M d P f false) fun t=>panK t []
theorem b_eq:ac7 Z 56 [vT C E F G H e K a L c M d P,vL j 3 S] []=b Z.R Z.D (L0 Z) (J2 Z) C E F G H e K a L c M d P j S:=by kernel_rfl
def L0b:Q->D->Tj3->Tj1:=fun _ _ G k l m n p e q a f c g d i j r s t=>bif (decide (t<s)) then idxK r t fun w=>aC (V.cells w) fun x y=>aS x fun z=>aC y fun A C=>aI A fun u=>aC C fun E F=>aB E fun v=>aN F (bif (z.toList==l.toList) then bif (u==(17:Int)) then G k l m n p e q a f c g d i j r s t true else bif (u==(10:Int)) then G k l m n p e q a f c g d i j r s t v else bif (u==(11:Int)) then G k l m n p e q a f c g d i j r s t v else G k l m n p e q a f c g d i j r s t false else G k l m n p e q a f c g d i j r s t false) else retR [vB false] []
theorem ag9:ae4 Z 56 .body L0P (L0F k l m n p e q a f c g d i j r s t)=L0b Z.R Z.D (J1 Z) k l m n p e q a f c g d i j r s t:=by kernel_rfl
def J1b:Q->D->Tj1->Tj3:=fun _ _ u k l m n p e q a f c g d i j r s t T=>bif T then retR [vB true] [] else u k l m n p e q a f c g d i j r s (w6 (t+z1))
theorem ak2:ac5 Z 56 .body J1P (J1F k l m n p e q a f c g d i j r s t T)=J1b Z.R Z.D (L0 Z) k l m n p e q a f c g d i j r s t T:=by kernel_rfl
def J2b:Q->D->Tj1->Tj4->Tj2:=fun _ _ e k u v w x y z A a f c g d i j r s X=>bif X then retR [vB false] [] else bif ((w6 ((BitVec.ofInt IntKind.i64.bits s&&& BitVec.ofInt IntKind.i64.bits z1).toNat:Int)) !=z0) then e w x y z A a f c g d i j r u v (v.length:Int) z0 else k w x y z A a f c g d i j r
theorem ah0:ac5 Z 56 .body J2P (J2F u v w x y z A a f c g d i j r s X)=J2b Z.R Z.D (L3 Z) (J4 Z) u v w x y z A a f c g d i j r s X:=by kernel_rfl
def L3b:Q->D->Tj1->Tj4->Tj1:=fun _ _ E F k l m n p e q a f c g d i j r s t=>bif (decide (t<s)) then idxK r t fun u=>aC (V.cells u) fun v w=>aS v fun x=>aC w fun y z=>aI y fun _=>aC z fun A C=>aB A fun _=>aN C (bif (x.toList==l.toList) then retR [vB false] [] else E k l m n p e q a f c g d i j r s (w6 (t+z1))) else F k l m n p e q a f c g d i
theorem aV1:ae4 Z 56 .body L3P (L3F k l m n p e q a f c g d i j r s t)=L3b Z.R Z.D (L3 Z) (J4 Z) k l m n p e q a f c g d i j r s t:=by kernel_rfl
def J4b:Q->D->Tj4:=fun t _ k l m n p e q a f c g d i=>ck (aa0 [vT k l m n p e q a f c g d i]) (cP (t aA3 [vT k l m n p e q a f c g d i] []) (fun j=>aB j fun r=>retR [vB r] []) fun s=>panK s [])
theorem aF4:ac5 Z 56 .body J4P (J4F k l m n p e q a f c g d i)=J4b Z.R Z.D k l m n p e q a f c g d i:=by kernel_rfl
theorem b_of {o}(h:b RZ.R RZ.D (L0 RZ) (J2 RZ) C E F G H e K a L c M d P j S=some o):RZ.R au4 [vT C E F G H e K a L c M d P,vL j 3 S] []=some o:=ab7 ((b_eq RZ ..).trans h)
theorem ag6 {o}(h:L0b RZ.R RZ.D (J1 RZ) k l m n p e q a f c g d i j r s t=some o):L0 RZ k l m n p e q a f c g d i j r s t=some o:=ac9 ((ag9 RZ ..).trans h)
theorem an7 {o}(h:J1b RZ.R RZ.D (L0 RZ) k l m n p e q a f c g d i j r s t T=some o):J1 RZ k l m n p e q a f c g d i j r s t T=some o:=aa9 (by kernel_rfl) ((ak2 RZ ..).trans h)
theorem ak5 {o}(h:J2b RZ.R RZ.D (L3 RZ) (J4 RZ) u v w x y z A a f c g d i j r s X=some o):J2 RZ u v w x y z A a f c g d i j r s X=some o:=aa9 (by kernel_rfl) ((ah0 RZ ..).trans h)
theorem aT4 {o}(h:L3b RZ.R RZ.D (L3 RZ) (J4 RZ) k l m n p e q a f c g d i j r s t=some o):L3 RZ k l m n p e q a f c g d i j r s t=some o:=ac9 ((aV1 RZ ..).trans h)
theorem aS3 {o}(h:J4b RZ.R RZ.D k l m n p e q a f c g d i=some o):J4 RZ k l m n p e q a f c g d i=some o:=aa9 (by kernel_rfl) ((aF4 RZ ..).trans h)
end
end ad3
namespace ay9
section
variable (a:B)(c:Int)(d e:Y)(f g:Int)(i:B)(j:W)(k:B)(l:W)(m:B)(n:W)(p:B)(q r s t u:W)(v:Lo)(w x:Nat)(y:Int)(z A:Y)(C E:Int)(F:B)(G:W)(H:B)(K:W)(L:B)(M:W)(P:B)(S:W)(T:Lo)
def J0P:List Nat:=[0,1]
def J0F:St:=⟨mkT 22 [(3,V.loc 0 0,.no),(4,V.loc 1 0,.no),(6,vB a,.no)],mkA 2 [(0,[(vI c,.no),(vS d,.no),(vS e,.no),(vI f,.no),(vI g,.no),(vL i 1 j,.no),(vL k 9 l,.no),(vL m 1 n,.no),(vL p 3 q,.no)]),(1,[(vI 0,.no),(vS (⟨#[]⟩:ByteArray),.no),(vS (⟨#[]⟩:ByteArray),.no),(vI 0,.no),(vI 0,.no),(vL false 1 r,.full),(vL false 9 s,.full),(vL false 1 t,.full),(vL false 3 u,.full)])],0,[],v,[]⟩
def J0:=Z.X 67 .body J0P (J0F a c d e f g i j k l m n p q r s t u v)
def b:Q->D->Tj5->Nat->Nat->Int->Y->Y->Int->Int->B->W->B->W->B->W->B->W->Lo->R:=fun j _ i _ _ y z A C E F G H K L M P S T=>ck (aa0 [vT y z A C E F G H K L M P S]) (cP (j ar7 [vT y z A C E F G H K L M P S] []) (fun a=>aB a fun c=>bif c then ck (aa0 [vL F 1 G,vI (G.length:Int),vI 1]) (cP (j an5 [vL F 1 G,vI (G.length:Int),vI 1] []) (fun d=>aB d fun e=>i e y z A C E F G H K L M P S [] [] [] [] T) fun f=>panK f T) else i false y z A C E F G H K L M P S [] [] [] [] T) fun g=>panK g T)
theorem b_eq:ac7 Z 67 [vO w x,vT y z A C E F G H K L M P S] T=b Z.R Z.D (J0 Z) w x y z A C E F G H K L M P S T:=by kernel_rfl
def J0b:Q->D->Tj5:=fun _ _ a c _ _ f g _ _ k l m n p q _ _ _ _ v=>retR [vT c (⟨#[]⟩:ByteArray) (⟨#[]⟩:ByteArray) f g false [] k l m n p q,vB a] v
theorem ab9:ac5 Z 67 .body J0P (J0F a c d e f g i j k l m n p q r s t u v)=J0b Z.R Z.D a c d e f g i j k l m n p q r s t u v:=by kernel_rfl
theorem b_of {o}(h:b RZ.R RZ.D (J0 RZ) w x y z A C E F G H K L M P S T=some o):RZ.R i_kind_rules_5 [vO w x,vT y z A C E F G H K L M P S] T=some o:=ab7 ((b_eq RZ ..).trans h)
theorem ad0 {o}(h:J0b RZ.R RZ.D a c d e f g i j k l m n p q r s t u v=some o):J0 RZ a c d e f g i j k l m n p q r s t u v=some o:=aa9 (by kernel_rfl) ((ab9 RZ ..).trans h)
end
end ay9
namespace ae2
section
variable (f:Int)(g i:Y)(j k u:Int)(v w:Y)(x y:Int)(a:B)(z l:W)(c:B)(A m:W)(d:B)(C n:W)(e:B)(E p:W)(q:B)(r:W)(s t:Int)(F:Lo)(G:B)(H:Lo)(K:B)
def J0P:List Nat:=[0,0,1,1]
def J0F:St:=⟨mkT 89 [(1,vQ f g i j k a l c m d n e p,.no),(46,vB K,.no)],mkA 0 [],0,[],[],[]⟩
def J0:=Z.X 75 .body J0P (J0F f g i j k a l c m d n e p K)
def L1P:List Nat:=[0,1,0,1,1,1]
def L1F:St:=⟨mkT 89 [(1,vQ f g i j k a l c m d n e p,.no),(48,vL q 3 r,.no),(49,vI s,.no),(50,vI t,.no)],mkA 0 [],0,[],F,[]⟩
def L1:=Z.X 75 .body L1P (L1F f g i j k a l c m d n e p q r s t F)
def J2P:List Nat:=[0,1,0,0,1,1,0,0,1,0,1,1,1]
def J2F:St:=⟨mkT 89 [(1,vQ f g i j k a l c m d n e p,.no),(48,vL q 3 r,.no),(49,vI s,.no),(50,vI t,.no),(87,vB G,.no)],mkA 0 [],0,[],H,[]⟩
def J2:=Z.X 75 .body J2P (J2F f g i j k a l c m d n e p q r s t G H)
def b:Q->D->Tj6->Tj4:=fun _ _ a1 u v w x y a z c A d C e E=>bif (decide ((E.length:Int)<1)) then a1 u v w x y a z c A d C e E true else bif (decide ((E.length:Int)>6)) then a1 u v w x y a z c A d C e E true else idxK E z0 fun f=>aC (V.cells f) fun g i=>aS g fun _=>aC i fun j k=>aI j fun _=>aC k fun l m=>aB l fun n=>aN m (bif n then a1 u v w x y a z c A d C e E true else idxK E (w6 ((E.length:Int)-z1)) fun p=>aC (V.cells p) fun q r=>aS q fun _=>aC r fun s t=>aI s fun F=>aC t fun G H=>aB G fun _=>aN H (bif (F !=(A.length:Int)) then a1 u v w x y a z c A d C e E true else idxK E (w6 ((E.length:Int)-z1)) fun K=>aC (V.cells K) fun L M=>aS L fun P=>aC M fun S T=>aI S fun _=>aC T fun X a0=>aB X fun _=>aN a0 (a1 u v w x y a z c A d C e E (!(P.toList==v.toList)))))
theorem b_eq:ac7 Z 75 [vT u v w x y a z c A d C e E] []=b Z.R Z.D (J0 Z) u v w x y a z c A d C e E:=by kernel_rfl
def J0b:Q->D->Tj7->Tj6:=fun _ _ q f g i j k a l c m d n e p K=>bif K then retR [vB false] [] else q f g i j k a l c m d n e p e p (p.length:Int) z0 []
theorem ab9:ac5 Z 75 .body J0P (J0F f g i j k a l c m d n e p K)=J0b Z.R Z.D (L1 Z) f g i j k a l c m d n e p K:=by kernel_rfl
def L1b:Q->D->Tj8->Tj7:=fun c6 _ c5 f g i j k a l c m d n e p q r s t F=>bif (decide (t<s)) then idxK r t fun v=>aC (V.cells v) fun w x=>aS w fun y=>aC x fun z A=>aI z fun C=>aC A fun E G=>aB E fun H=>aN G (wrO (F++[O.box [(vS (⟨#[]⟩:ByteArray),false),(vI 0,false),(vB false,false)]]) F.length 0 [(vS y,false),(vI C,false),(vB H,false)] fun u=>rd1 u F.length 0 fun K=>aS K fun L=>cP (c6 aZ2 [vS L] []) (fun M=>aB M fun P=>bif (!P) then c5 f g i j k a l c m d n e p q r s t true u else rd1 u F.length 1 fun S=>aI S fun T=>bif (decide (T<0)) then c5 f g i j k a l c m d n e p q r s t true u else bif (decide (t>0)) then idxK p (w6 (t-z1)) fun X=>aC (V.cells X) fun a0 a1=>aS a0 fun _=>aC a1 fun a2 a3=>aI a2 fun a4=>aC a3 fun a5 a6=>aB a5 fun _=>aN a6 (rd1 u F.length 1 fun a7=>aI a7 fun a8=>bif (decide (a8<a4)) then c5 f g i j k a l c m d n e p q r s t true u else ck (decide (0<=z0)&&(decide (z0<=t)&&decide (t<=(p.length:Int)))) (cS (c6 ae0 [vL e 3 ((p.take t.toNat).drop z0.toNat),V.func (.func 89) [] [vO F.length 0]] u) (fun a9 c0=>aB a9 fun c1=>c5 f g i j k a l c m d n e p q r s t c1 c0) fun _ _=>none)) else ck (decide (0<=z0)&&(decide (z0<=t)&&decide (t<=(p.length:Int)))) (cS (c6 ae0 [vL e 3 ((p.take t.toNat).drop z0.toNat),V.func (.func 89) [] [vO F.length 0]] u) (fun c2 c3=>aB c2 fun c4=>c5 f g i j k a l c m d n e p q r s t c4 c3) fun _ _=>none)) fun _=>none) else retR [vB true] F
theorem ak9:ae4 Z 75 .body L1P (L1F f g i j k a l c m d n e p q r s t F)=L1b Z.R Z.D (J2 Z) f g i j k a l c m d n e p q r s t F:=by kernel_rfl
def J2b:Q->D->Tj7->Tj8:=fun _ _ u f g i j k a l c m d n e p q r s t G H=>bif G then retR [vB false] H else u f g i j k a l c m d n e p q r s (w6 (t+z1)) H
theorem ah0:ac5 Z 75 .body J2P (J2F f g i j k a l c m d n e p q r s t G H)=J2b Z.R Z.D (L1 Z) f g i j k a l c m d n e p q r s t G H:=by kernel_rfl
theorem b_of {o}(h:b RZ.R RZ.D (J0 RZ) u v w x y a z c A d C e E=some o):RZ.R aV0 [vT u v w x y a z c A d C e E] []=some o:=ab7 ((b_eq RZ ..).trans h)
theorem ad0 {o}(h:J0b RZ.R RZ.D (L1 RZ) f g i j k a l c m d n e p K=some o):J0 RZ f g i j k a l c m d n e p K=some o:=aa9 (by kernel_rfl) ((ab9 RZ ..).trans h)
theorem ak4 {o}(h:L1b RZ.R RZ.D (J2 RZ) f g i j k a l c m d n e p q r s t F=some o):L1 RZ f g i j k a l c m d n e p q r s t F=some o:=ac9 ((ak9 RZ ..).trans h)
theorem ak5 {o}(h:J2b RZ.R RZ.D (L1 RZ) f g i j k a l c m d n e p q r s t G H=some o):J2 RZ f g i j k a l c m d n e p q r s t G H=some o:=aa9 (by kernel_rfl) ((ah0 RZ ..).trans h)
end
end ae2
namespace aQ5
section
variable (a:B)(c:Int)
def J0P:List Nat:=[0,1]
def J0F:St:=⟨mkT 13 [(2,vB a,.no)],mkA 0 [],0,[],[],[]⟩
def J0:=Z.X 86 .body J0P (J0F a)
def b:Q->D->(B->R)->Int->R:=fun _ _ a c=>bif (decide (c>=1)) then bif (decide (c<=5)) then a true else a (c==(9:Int)) else a (c==(9:Int))
theorem b_eq:ac7 Z 86 [vI c] []=b Z.R Z.D (J0 Z) c:=by kernel_rfl
def J0b:Q->D->B->R:=fun _ _ a=>retR [vB a] []
theorem ab9:ac5 Z 86 .body J0P (J0F a)=J0b Z.R Z.D a:=by kernel_rfl
theorem b_of {o}(h:b RZ.R RZ.D (J0 RZ) c=some o):RZ.R aZ0 [vI c] []=some o:=ab7 ((b_eq RZ ..).trans h)
theorem ad0 {o}(h:J0b RZ.R RZ.D a=some o):J0 RZ a=some o:=aa9 (by kernel_rfl) ((ab9 RZ ..).trans h)
end
end aQ5
end
end Go.Proofs.YtflhfchgdpbhcaaGreat.E
