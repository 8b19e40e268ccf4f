/- It is proved of functions that ask whether a type is valid what they answer at plain data. No condition beyond the lemmas' own. -/
import Derived.Test.YtflhfchgdpbhcaaGreatPB
set_option maxRecDepth 100000
namespace Go.Proofs.YtflhfchgdpbhcaaGreat.E
open Go
namespace aG4
def J0F (n3 n4:Int)(s5 s6:ByteArray)(n7 n8:Int)(m9:Bool)(e10:List V)(m11:Bool)(e12:List V)(m13:Bool)(e14:List V)(m15:Bool)(e16:List V)(b17:Bool):St:=⟨mkT 64 [(1,(vL false 0 []),.no),(2,(vI n3),.no),(3,(vR [(vI n4),(vS s5),(vS s6),(vI n7),(vI n8),(vL m9 1 e10),(vL m11 9 e12),(vL m13 1 e14),(vL m15 3 e16)]),.no),(46,(vB b17),.no)],mkA 1 [],0,[],[],[]⟩
noncomputable def J0 (Z:Env):=fun (_m:Bool) (_e:List V) n3 n4 s5 s6 n7 n8 m9 e10 m11 e12 m13 e14 m15 e16 b17=>Z.X 44 .body ae1.J0P (J0F n3 n4 s5 s6 n7 n8 m9 e10 m11 e12 m13 e14 m15 e16 b17)
theorem b_eq (Z:Env) a1 a2 a3 a4 a5 m6 l7 m8 l9 m10 l11 m12 l13 a16:ac7 Z 44 [(vA [(vI a1),(vS a2),(vS a3),(vI a4),(vI a5),(vL m6 1 l7),(vL m8 9 l9),(vL m10 1 l11),(vL m12 3 l13)]),(vL false 0 []),(vI a16)] []=ae1.b Z.R Z.D (J0 Z) a1 a2 a3 a4 a5 m6 l7 m8 l9 m10 l11 m12 l13 false [] a16:=by kernel_rfl
theorem ab9 (Z:Env) n3 n4 s5 s6 n7 n8 m9 e10 m11 e12 m13 e14 m15 e16 b17:ac5 Z 44 .body ae1.J0P (J0F n3 n4 s5 s6 n7 n8 m9 e10 m11 e12 m13 e14 m15 e16 b17)=ae1.J0b Z.R Z.D (ae1.L1 Z) false [] n3 n4 s5 s6 n7 n8 m9 e10 m11 e12 m13 e14 m15 e16 b17:=by kernel_rfl
theorem b_of a1 a2 a3 a4 a5 m6 l7 m8 l9 m10 l11 m12 l13 a16 {o}(h:ae1.b RZ.R RZ.D (J0 RZ) a1 a2 a3 a4 a5 m6 l7 m8 l9 m10 l11 m12 l13 false [] a16=some o):RZ.R aj2 [(vA [(vI a1),(vS a2),(vS a3),(vI a4),(vI a5),(vL m6 1 l7),(vL m8 9 l9),(vL m10 1 l11),(vL m12 3 l13)]),(vL false 0 []),(vI a16)] []=some o:=ab7 ((b_eq RZ a1 a2 a3 a4 a5 m6 l7 m8 l9 m10 l11 m12 l13 a16).trans h)
theorem ad0 m e n3 n4 s5 s6 n7 n8 m9 e10 m11 e12 m13 e14 m15 e16 b17 {o}(h:ae1.J0b RZ.R RZ.D (ae1.L1 RZ) false [] n3 n4 s5 s6 n7 n8 m9 e10 m11 e12 m13 e14 m15 e16 b17=some o):J0 RZ m e n3 n4 s5 s6 n7 n8 m9 e10 m11 e12 m13 e14 m15 e16 b17=some o:=aa9 (by kernel_rfl) ((ab9 RZ n3 n4 s5 s6 n7 n8 m9 e10 m11 e12 m13 e14 m15 e16 b17).trans h)
end aG4
def hb (k b:Int):Bool:=(w6 (((BitVec.ofInt IntKind.i64.bits (hasF k) &&& BitVec.ofInt IntKind.i64.bits b).toNat:Int))) !=z0
def af4 (k:Int)(id nm:ByteArray)(n m:Int)(e1 e2 e3 e4:List V):Bool:=(hb k 1||eS id)&&((hb k 2||eS nm)&&((hb k 4||n==0)&&((hb k 8||m==0)&&((hb k 16||eL e1)&&((hb k 32||eL e2)&&((hb k 64||eL e3)&&(hb k 128||eL e4)))))))
theorem ar8 {args:List V}{last:Option Bool}{l:List Bool}{b:Bool}(h:ac7 ZC ac0 args []=clX (clJ ZC) last l)(hb:clB last l=b):RZ.R ac0 args []=some (.ret [.bool b] []):=by
 subst hb
 exact body_z ZC_ok (h.trans (clX_is last l))
theorem clean_is {k:Int}{id nm:ByteArray}{n m:Int}{f1 f2 f3 f4:Bool}{e1 e2 e3 e4:List V}(h0:0<=k)(h1:k<=20):RZ.R ac0 [.agg [.int .i64 k,.str id,.str nm,.int .i64 n,.int .i64 m,.list f1 1 e1,.list f2 9 e2,.list f3 1 e3,.list f4 3 e4]] []=some (.ret [.bool (af4 k id nm n m e1 e2 e3 e4)] []):=by
 rcases (by omega:k=0∨k=1∨k=2∨k=3∨k=4∨k=5∨k=6∨k=7∨k=8∨k=9∨k=10∨k=11∨k=12∨k=13∨k=14∨k=15∨k=16∨k=17∨k=18∨k=19∨k=20) with rfl | rfl | rfl | rfl | rfl | rfl | rfl | rfl | rfl | rfl | rfl | rfl | rfl | rfl | rfl | rfl | rfl | rfl | rfl | rfl | rfl
 ·exact ar8 (clean_0 ..) (by kernel_rfl)
 ·exact ar8 (clean_1 ..) (by kernel_rfl)
 ·exact ar8 (clean_2 ..) (by kernel_rfl)
 ·exact ar8 (clean_3 ..) (by kernel_rfl)
 ·exact ar8 (clean_4 ..) (by kernel_rfl)
 ·exact ar8 (clean_5 ..) (by kernel_rfl)
 ·exact ar8 (clean_6 ..) (by kernel_rfl)
 ·exact ar8 (clean_7 ..) (by kernel_rfl)
 ·exact ar8 (clean_8 ..) (by kernel_rfl)
 ·exact ar8 (clean_9 ..) (by kernel_rfl)
 ·exact ar8 (clean_10 ..) (by kernel_rfl)
 ·exact ar8 (clean_11 ..) (by kernel_rfl)
 ·exact ar8 (clean_12 ..) (by kernel_rfl)
 ·exact ar8 (clean_13 ..) (by kernel_rfl)
 ·exact ar8 (clean_14 ..) (by kernel_rfl)
 ·exact ar8 (clean_15 ..) (by kernel_rfl)
 ·exact ar8 (clean_16 ..) (by kernel_rfl)
 ·exact ar8 (clean_17 ..) (by kernel_rfl)
 ·exact ar8 (clean_18 ..) (by kernel_rfl)
 ·exact ar8 (clean_19 ..) (by kernel_rfl)
 ·exact ar8 (clean_20 ..) (by kernel_rfl)
end Go.Proofs.YtflhfchgdpbhcaaGreat.E
set_option maxRecDepth 100000
namespace Go.Proofs.YtflhfchgdpbhcaaGreat.E
open Go
theorem aD8 {α:Type}{a b:Int}{x y:α}(h:a≠b):(bif a==b then x else y)=y:=by rw [beq_eq_false_iff_ne.2 h];rfl
def shB (k n m:Int)(ns:List ByteArray)(kl:Nat)(u v:Bool):Bool:=
 if k=7 then decide (0<=n/\n<=1000) else if k=8 then decide (1<=n/\n<=31/\0<=m/\m<=n) else if k=9 then decide (1<=ns.length/\ns.length<=24)&&nmsB ns
 else if k=10 then decide (1<=kl/\kl<=24)&&((ns.length:Int)==(kl:Int)&&nmsB ns) else if k=15 then decide (kl<=24)&&((ns.length:Int)==(kl:Int)&&nmsB ns) else if k=11 then u
 else if k=12 then decide (0<=n/\n<=1000/\kl=1) else if k=13 then decide (1<=n/\n<=1000/\kl=1) else if k=14 then decide (kl=1) else if k=17 then v else true
section
variable {k:Int} {id nm:ByteArray} {n m:Int} {f1 f2 f3 f4:Bool} {ns:List ByteArray} {e2 e3 e4:List V} {u v:Bool}
theorem union_nil {ls:List (Bool×List Int)}{e1:List V}(hls:ls.length<4611686018427387904)(hf:(flat ls).length<=1000000)(hno:aa0 e1=true/\aa0 e4=true):RZ.R as6 [.agg [.int .i64 k,.str id,.str nm,.int .i64 n,.int .i64 m,.list f1 1 e1,.list f2 9 [],.list f3 1 (lvs ls),.list f4 3 e4]] []=some (.ret [.bool false] []):=by
 obtain ⟨m',hl⟩:=bb4 (k:=k) (id:=id) (nm:=nm) (n:=n) (m:=m) (f1:=f1) (e1:=e1) (f2:=f2) (e2:=[]) (f3:=f3) (f4:=f4) (e4:=e4) hls hf
 have J0:ab3.J0 RZ k id nm n m f1 e1 f2 [] f3 (lvs ls) f4 e4 true=some (.ret [.bool false] []):=ab3.ad0 _ _ _ _ _ _ _ _ _ _ _ _ _ true rfl
 have hn1:aa0 [V.agg [.int .i64 k,.str id,.str nm,.int .i64 n,.int .i64 m,.list f1 1 e1,.list f2 9 [],.list f3 1 (lvs ls),.list f4 3 e4]]=true:=by simp [aa0,ad1,hno,ap3]
 apply ab3.b_of
 unfold ab3.b
 simp -implicitDefEqProofs only [vI,vL,hn1,ck,cond_true]
 rw [cP_v hl (by simp [ad1,at4])]
 simp -implicitDefEqProofs only [aL_v,J0,aq6,show decide ((w6 (((([]:List V).length:Nat):Int)-z1))<1)=true from by decide,cond_true]
 cases decide (((ints (flat ls)).length:Int)>256)<;>rfl
theorem shaped_is (hn:lOk ns)(hno:aa0 e2=true/\aa0 e3=true/\aa0 e4=true)
  (hu:RZ.R as6 [.agg [.int .i64 k,.str id,.str nm,.int .i64 n,.int .i64 m,.list f1 1 (aa3 ns),.list f2 9 e2,.list f3 1 e3,.list f4 3 e4]] []=some (.ret [.bool u] []))
  (hv:RZ.R aw8 [.agg [.int .i64 k,.str id,.str nm,.int .i64 n,.int .i64 m,.list f1 1 (aa3 ns),.list f2 9 e2,.list f3 1 e3,.list f4 3 e4]] []=some (.ret [.bool v] [])):
  RZ.R aA3 [.agg [.int .i64 k,.str id,.str nm,.int .i64 n,.int .i64 m,.list f1 1 (aa3 ns),.list f2 9 e2,.list f3 1 e3,.list f4 3 e4]] []=some (.ret [.bool (shB k n m ns e2.length u v)] []):=by
 have J0:∀b,af0.J0 RZ b=some (.ret [.bool b] []):=fun b=>af0.ad0 b rfl
 have J1:∀b,af0.J1 RZ b=some (.ret [.bool b] []):=fun b=>af0.an7 b rfl
 have J2:∀b,af0.J2 RZ b=some (.ret [.bool b] []):=fun b=>af0.ak5 b rfl
 have J3:∀b,af0.J3 RZ b=some (.ret [.bool b] []):=fun b=>af0.aH9 b rfl
 have J4:∀b,af0.J4 RZ b=some (.ret [.bool b] []):=fun b=>af0.aS3 b rfl
 have J5:∀b,af0.J5 RZ b=some (.ret [.bool b] []):=fun b=>af0.aM6 b rfl
 have J6:∀b,af0.J6 RZ b=some (.ret [.bool b] []):=fun b=>af0.aV8 b rfl
 have hn1:aa0 [V.agg [.int .i64 k,.str id,.str nm,.int .i64 n,.int .i64 m,.list f1 1 (aa3 ns),.list f2 9 e2,.list f3 1 e3,.list f4 3 e4]]=true:=by simp [aa0,ad1,hno,ad4]
 have hn2:∀x:Int,aa0 [V.list f1 1 (aa3 ns),.int .i64 x]=true:=fun x=>by simp [aa0,ad1,ad4]
 apply af0.b_of
 unfold af0.b
 simp -implicitDefEqProofs only [vI,vL,vB,hn1,hn2,ck,cond_true,hu,hv,aN1 hn,cP_B,aB_v,J0,J1,J2,J3,J4,J5,J6,aq6,ac4,ae8]
 refine ac3 ?_
 unfold shB
 by_cases h7:k=7
 ·subst h7;rw [if_pos rfl,Bool.eq_iff_iff];simp only [show ((7:Int)==7)=true from rfl];((try simp only [av8,cond_true,decide_eq_true_eq,Bool.false_eq_true,and_false,or_false]);try omega)
 rw [if_neg h7,aD8 h7]
 by_cases h8:k=8
 ·subst h8;rw [if_pos rfl,Bool.eq_iff_iff];simp only [show ((8:Int)==8)=true from rfl];((try simp only [av8,cond_true,decide_eq_true_eq,Bool.false_eq_true,and_false,or_false]);try omega)
 rw [if_neg h8,aD8 h8]
 by_cases h9:k=9
 ·subst h9
  rw [if_pos rfl];simp only [show ((9:Int)==9)=true from rfl,cond_true]
  rw [show ((ns.length:Int)==(ns.length:Int))=true from by simp,Bool.true_and]
  generalize nmsB ns=x
  rw [Bool.eq_iff_iff];cases x<;>((try simp only [av8,Bool.and_true,Bool.and_false,decide_eq_true_eq,Bool.false_eq_true,and_false,or_false,and_true,or_self]);try omega)
 rw [if_neg h9,aD8 h9]
 by_cases h10:k=10
 ·subst h10
  rw [if_pos rfl];simp only [show ((10:Int)==10)=true from rfl,cond_true]
  generalize ((ns.length:Int)==(e2.length:Int)&&nmsB ns)=x
  rw [Bool.eq_iff_iff];cases x<;>((try simp only [av8,Bool.and_true,Bool.and_false,decide_eq_true_eq,Bool.false_eq_true,and_false,or_false,and_true,or_self]);try omega)
 rw [if_neg h10,aD8 h10]
 by_cases h15:k=15
 ·subst h15
  rw [if_pos rfl];simp only [show ((15:Int)==15)=true from rfl,cond_true]
  generalize ((ns.length:Int)==(e2.length:Int)&&nmsB ns)=x
  rw [Bool.eq_iff_iff];cases x<;>((try simp only [av8,Bool.and_true,Bool.and_false,decide_eq_true_eq,Bool.false_eq_true,and_false,or_false,and_true,or_self]);try omega)
 rw [if_neg h15,aD8 h15]
 by_cases h11:k=11
 ·subst h11;rw [if_pos rfl];rfl
 rw [if_neg h11,aD8 h11]
 by_cases h12:k=12
 ·subst h12;rw [if_pos rfl,Bool.eq_iff_iff];simp only [show ((12:Int)==12)=true from rfl,show z1=(1:Int) from rfl];((try simp only [av8,cond_true,decide_eq_true_eq,Bool.false_eq_true,and_false,or_false,beq_iff_eq]);try omega)
 rw [if_neg h12,aD8 h12]
 by_cases h13:k=13
 ·subst h13;rw [if_pos rfl,Bool.eq_iff_iff];simp only [show ((13:Int)==13)=true from rfl,show z1=(1:Int) from rfl];((try simp only [av8,cond_true,decide_eq_true_eq,Bool.false_eq_true,and_false,or_false,beq_iff_eq]);try omega)
 rw [if_neg h13,aD8 h13]
 by_cases h14:k=14
 ·subst h14;rw [if_pos rfl,Bool.eq_iff_iff];simp only [show ((14:Int)==14)=true from rfl,show z1=(1:Int) from rfl];((try simp only [cond_true,decide_eq_true_eq,beq_iff_eq]);try omega)
 rw [if_neg h14,aD8 h14]
 by_cases h17:k=17
 ·subst h17;rw [if_pos rfl];rfl
 rw [if_neg h17,aD8 h17]
def okA (id:ByteArray)(a:Ar):Bool:=decide (a.1=id)&&(a.2.1==17||((a.2.1==10||a.2.1==11)&&a.2.2))
def aG6 (id:ByteArray)(A:List Ar):Bool:=A.all fun a=>!decide (a.1=id)
def wiB (k:Int)(id nm:ByteArray)(A:List Ar)(sh:Bool):Bool:=bif k==20 then A.any (okA id) else (!hb k 2||af2 nm)&&((!hb k 1||(iddB id&&aG6 id A))&&sh)
theorem hb_1 (k:Int):(w6 (((BitVec.ofInt IntKind.i64.bits (hasF k) &&& BitVec.ofInt IntKind.i64.bits z1).toNat:Int)) !=z0)=hb k 1:=by unfold hb;rfl
theorem hb_2 (k:Int):(w6 (((BitVec.ofInt IntKind.i64.bits (hasF k) &&& BitVec.ofInt IntKind.i64.bits 2).toNat:Int)) !=z0)=hb k 2:=by unfold hb;rfl
theorem avs_at {A:List Ar}{i:Nat}{a:Ar}(h:A[i]? =some a)(K:V->R):idxK (avs A) (i:Int) K=K (av a):=as5 (by unfold avs;rw [List.getElem?_map,h];rfl) K
theorem wi_L0 {e1:List V}{mm:Bool}{A:List Ar}(hA:A.length<1000000):∀(j i:Nat),i+j=A.length->ad3.L0 RZ k id nm n m f1 e1 f2 e2 f3 e3 f4 e4 mm (avs A) A.length i=some (.ret [.bool ((A.drop i).any (okA id))] [])
 | 0,i,h=>by
  obtain rfl:i=A.length:=by omega
  apply ad3.ag6
  unfold ad3.L0b
  rw [ad9,List.drop_length]
  rfl
 | j+1,i,h=>by
  obtain ⟨a,ha⟩:=getL (l:=A) (i:=i) (by omega)
  have ih:=wi_L0 (e1:=e1) (mm:=mm) hA j (i+1) (by omega)
  have J1:∀b,ad3.J1 RZ k id nm n m f1 e1 f2 e2 f3 e3 f4 e4 mm (avs A) A.length i b=some (.ret [.bool (b||(A.drop (i+1)).any (okA id))] []):=by
   intro b
   apply ad3.an7
   unfold ad3.J1b
   cases b with
   | true=>rfl
   | false=>rw [w6_1 (show i<9223372036854775807 by omega)];exact ih
  apply ad3.ag6
  unfold ad3.L0b
  rw [af3 (by omega),am5 ha]
  simp -implicitDefEqProofs only [cond_true,avs_at ha,av,ah7,aC_v,aS_v,aI_v,aB_v,aN_v,J1,ac4,List.any_cons]
  refine ac3 ?_
  rw [strB]
  unfold okA
  generalize (A.drop (i+1)).any _=x
  cases decide (a.1=id)<;>cases (a.2.1==17)<;>cases (a.2.1==10)<;>cases (a.2.1==11)<;>cases a.2.2<;>cases x<;>rfl
theorem Within_is {e1:List V}{mm sh:Bool}{A:List Ar}(hA:A.length<1000000)(hid:sOk id)(hnm:sOk nm)(hno:aa0 e1=true/\aa0 e2=true/\aa0 e3=true/\aa0 e4=true)
  (hs:RZ.R aA3 [.agg [.int .i64 k,.str id,.str nm,.int .i64 n,.int .i64 m,.list f1 1 e1,.list f2 9 e2,.list f3 1 e3,.list f4 3 e4]] []=some (.ret [.bool sh] [])):
  RZ.R au4 [.agg [.int .i64 k,.str id,.str nm,.int .i64 n,.int .i64 m,.list f1 1 e1,.list f2 9 e2,.list f3 1 e3,.list f4 3 e4],.list mm 3 (avs A)] []=some (.ret [.bool (wiB k id nm A sh)] []):=by
 have hn1:aa0 [V.agg [.int .i64 k,.str id,.str nm,.int .i64 n,.int .i64 m,.list f1 1 e1,.list f2 9 e2,.list f3 1 e3,.list f4 3 e4]]=true:=by simp [aa0,ad1,hno]
 have J4:ad3.J4 RZ k id nm n m f1 e1 f2 e2 f3 e3 f4 e4=some (.ret [.bool sh] []):=by
  apply ad3.aS3
  unfold ad3.J4b
  simp -implicitDefEqProofs only [hn1,ck,cond_true,hs,cP_B,aB_v,aq6,vB]
 have L3:∀(j i:Nat),i+j=A.length->ad3.L3 RZ k id nm n m f1 e1 f2 e2 f3 e3 f4 e4 mm (avs A) A.length i=some (.ret [.bool (aG6 id (A.drop i)&&sh)] []):=by
  intro j
  induction j with
  | zero=>
   intro i h
   obtain rfl:i=A.length:=by omega
   apply ad3.aT4
   unfold ad3.L3b
   rw [ad9,List.drop_length]
   rw [cond_false]
   exact J4.trans (ac3 (by rw [show aG6 id []=true from rfl,Bool.true_and]))
  | succ j ih=>
   intro i h
   obtain ⟨a,ha⟩:=getL (l:=A) (i:=i) (by omega)
   apply ad3.aT4
   unfold ad3.L3b
   rw [af3 (by omega),am5 ha]
   simp -implicitDefEqProofs only [cond_true,avs_at ha,av,ah7,aC_v,aS_v,aI_v,aB_v,aN_v,w6_1 (show i<9223372036854775807 by omega),ih (i+1) (by omega),aq6,vB,ac4]
   refine ac3 ?_
   rw [strB]
   unfold aG6
   rw [List.all_cons]
   generalize (A.drop (i+1)).all _=x
   cases decide (a.1=id)<;>cases x<;>rfl
 have J2:∀b,ad3.J2 RZ mm (avs A) k id nm n m f1 e1 f2 e2 f3 e3 f4 e4 (hasF k) b=some (.ret [.bool (!b&&((!hb k 1||aG6 id A)&&sh))] []):=by
  intro b
  have h3:=L3 A.length 0 (by omega)
  apply ad3.ak5
  unfold ad3.J2b
  cases b with
  | true=>rfl
  | false=>
   simp -implicitDefEqProofs only [cond_false,bE9,hb_1]
   cases hb k 1 with
   | true=>rw [cond_true];exact h3.trans (ac3 (by simp))
   | false=>rw [cond_false];exact J4.trans (ac3 (by simp))
 have h0:=wi_L0 (k:=k) (id:=id) (nm:=nm) (n:=n) (m:=m) (f1:=f1) (f2:=f2) (f3:=f3) (f4:=f4) (e1:=e1) (e2:=e2) (e3:=e3) (e4:=e4) (mm:=mm) hA A.length 0 (by omega)
 apply ad3.b_of
 unfold ad3.b wiB
 cases hk:(k==20) with
 | true=>rw [cond_true,bE9];exact h0.trans (ac3 (by rw [List.drop_zero];rfl))
 | false=>
  unfold sOk at hid hnm
  simp -implicitDefEqProofs only [cond_false,vI,vS,bC6,cP_I,aI_v,hb_1,hb_2,aC4 (s:=nm) (by omega),bm5 (s:=id) (by omega),cP_B,aB_v,J2,ac4]
  refine ac3 ?_
  cases hb k 2<;>cases hb k 1<;>cases af2 nm<;>cases iddB id<;>cases aG6 id A<;>cases sh<;>rfl
end
end Go.Proofs.YtflhfchgdpbhcaaGreat.E
set_option maxRecDepth 100000
namespace Go.Proofs.YtflhfchgdpbhcaaGreat.E
open Go
def unT (vt:Bool)(ns:List ByteArray)(n:Int)(ls:List (Bool×List Int)):List Ty->Bool
 | []=>false
 | .mk tk _ _ _ _ _ tns _ _ _ _ _ _::r=>unB tk tns.length r.length vt ns n ls
def vaB (id:ByteArray)(ns:List ByteArray)(kl:Nat)(ch:List Pt):Bool:=aF2 kl id ch&&(decide (kl<=24)&&((ns.length:Int)==(kl:Int)&&nmsB ns))
def ownB (k:Int)(id nm:ByteArray)(n m:Int)(ns:List ByteArray)(ks:List Ty)(ls:List (Bool×List Int))(ch:List Pt)(A:List Ar)(d:Int)(vt:Bool):Bool:=
 decide (0<=k/\k<=20)&&(decide (d<=16)&&(af4 k id nm n m (aa3 ns) (tvs ks) (lvs ls) (cvs ch)&&(!(decide (k=0∨k=15)&&decide (1<d))&&wiB k id nm A (shB k n m ns ks.length (unT vt ns n ls ks) (vaB id ns ks.length ch)))))
mutual
def rvB :Ty->List Ar->Int->Bool
 | .mk k id nm n m _ ns _ ks _ ls _ ch,A,d=>ownB k id nm n m ns ks ls ch A d (rtB ks)&&rvsB ks (insA A k id) (d+1)
def rtB :List Ty->Bool
 | []=>false
 | t::_=>rvB t [] 1
def rvsB :List Ty->List Ar->Int->Bool
 | [],_,_=>true
 | t::r,A,d=>rvB t A d&&rvsB r A d
end
mutual
def flOk :Ty->Prop
 | .mk _ _ _ _ _ _ _ _ ks _ ls _ _=>(flat ls).length<=1000000/\flsOk ks
def flsOk :List Ty->Prop
 | []=>True
 | t::r=>flOk t/\flsOk r
end
theorem insA_len (A:List Ar)(k:Int)(id:ByteArray):(insA A k id).length=A.length+1:=by
 unfold insA
 cases (k==12)<;>simp
theorem aS6 :∀A:List Ar,aa0 (avs A)=true
 | []=>rfl
 | a::r=>by show (ad1 (av a)&&aa0 (avs r))=true;rw [aS6 r];rfl
def RV (t:Ty):Prop:=(∀(A:List Ar) (mm:Bool) (d:Int),(A.length:Int)<d->d<1000->RZ.R aj2 [tv t,.list mm 3 (avs A),.int .i64 d] []=some (.ret [.bool (rvB t A d)] []))/\RZ.R aj2 [tv t,.list false 0 [],.int .i64 1] []=some (.ret [.bool (rvB t [] 1)] [])
theorem w6_i {x:Int}(h:-9223372036854775808<=x/\x<9223372036854775808):w6 x=x:=IntWalk.i64_in _ (by omega)
section
variable {k:Int} {id nm:ByteArray} {n m:Int} {f1 f2 f3 f4:Bool} {ns:List ByteArray} {ks:List Ty} {ls:List (Bool×List Int)} {ch:List Pt}
theorem rv_loop (hR:∀t∈ks,RV t)(hl:ks.length<4611686018427387904){A:List Ar}{mm mk:Bool}{d:Int}(hA:(A.length:Int)<d+1)(hd:d<=16):∀(j i:Nat),i+j=ks.length->ae1.L1 RZ d mm (avs A) mk (tvs ks) ks.length i=some (.ret [.bool (rvsB (ks.drop i) A (d+1))] [])
 | 0,i,h=>by
  obtain rfl:i=ks.length:=by omega
  apply ae1.ak4
  unfold ae1.L1b
  rw [ad9,List.drop_length,cond_false]
  rfl
 | j+1,i,h=>by
  obtain ⟨t,ht⟩:=getL (l:=ks) (i:=i) (by omega)
  have ih:=rv_loop hR hl (mm:=mm) (mk:=mk) hA hd j (i+1) (by omega)
  have hr:=(hR t (List.mem_of_getElem? ht)).1 A mm (d+1) hA (by omega)
  have hno:=ad6 t
  have hnA:=aS6 A
  apply ae1.ak4
  unfold ae1.L1b
  rw [af3 (by omega),am5 ht]
  have hw:w6 (d+z1)=d+1:=w6_i (x:=d+1) (by omega)
  obtain ⟨k',id',nm',n',m',g1,ns',g2,ks',g3,ls',g4,ch'⟩:=t
  simp only [tv] at hr hno
  have hn:∀r,aa0 (V.agg [.int .i64 k',.str id',.str nm',.int .i64 n',.int .i64 m',.list g1 1 (aa3 ns'),.list g2 9 (tvs ks'),.list g3 1 (lvs ls'),.list g4 3 (cvs ch')]::.list mm 3 (avs A)::[.int .i64 r])=true:=fun r=>by
   show (ad1 _&&(aa0 (avs A)&&_))=true
   rw [hno,hnA];rfl
  simp -implicitDefEqProofs only [cond_true,aE6 ht,tv,ah7,aC_v,aI_v,aS_v,aL_v,aN_v,vI,vL,hw,hn,ck,hr,cP_B,aB_v,w6_1 (show i<9223372036854775807 by omega),ih,aq6,vB,ac4]
  refine ac3 ?_
  rw [rvsB]
  cases rvB (.mk k' id' nm' n' m' g1 ns' g2 ks' g3 ls' g4 ch') A (d+1)<;>rfl
theorem rv_J0 (hR:∀t∈ks,RV t)(hl:ks.length<4611686018427387904){A:List Ar}{mm:Bool}{d:Int}(hA:(A.length:Int)<d)(hd:d<=16):∀b,ae1.J0b RZ.R RZ.D (ae1.L1 RZ) mm (avs A) d k id nm n m f1 (aa3 ns) f2 (tvs ks) f3 (lvs ls) f4 (cvs ch) b=some (.ret [.bool (!b&&rvsB ks (insA A k id) (d+1))] []):=by
 intro b
 unfold ae1.J0b
 cases b with
 | true=>rfl
 | false=>
  obtain ⟨s',hi⟩:=Inside_is (k:=k) (id:=id) (nm:=nm) (n:=n) (m:=m) (f1:=f1) (f2:=f2) (f3:=f3) (f4:=f4) (e1:=aa3 ns) (e2:=tvs ks) (e3:=lvs ls) (e4:=cvs ch) (A:=A) (x:=.list mm 3 (avs A)) (by omega) (fun s=>rfl)
  have hno:=ad6 (.mk k id nm n m f1 ns f2 ks f3 ls f4 ch)
  simp only [tv] at hno
  have hnB:=aS6
  have hn:aa0 [V.list mm 3 (avs A),.agg [.int .i64 k,.str id,.str nm,.int .i64 n,.int .i64 m,.list f1 1 (aa3 ns),.list f2 9 (tvs ks),.list f3 1 (lvs ls),.list f4 3 (cvs ch)]]=true:=by
   show (aa0 (avs A)&&(ad1 _&&_))=true
   rw [hno,hnB];rfl
  have hlp:=rv_loop hR hl (A:=insA A k id) (mm:=true) (mk:=f2) (d:=d) (by rw [insA_len];omega) hd ks.length 0 (by omega)
  have hnI:ad1 (V.list true 3 (avs (insA A k id)))=true:=hnB _
  simp -implicitDefEqProofs only [cond_false,vL,hn,ck,cond_true]
  rw [cP_v hi hnI]
  simp -implicitDefEqProofs only [aL_v,ad8]
  exact hlp.trans (ac3 (by simp))
theorem rv_b {jJ0:Bool->List V->Int->Int->ByteArray->ByteArray->Int->Int->Bool->List V->Bool->List V->Bool->List V->Bool->List V->Bool->R}{A:List Ar}{mm X vt:Bool}{d:Int}(hA:A.length<1000)
  (hid:sOk id) (hnm:sOk nm) (hn:lOk ns) (hch:cOk ch) (hl:ks.length<4611686018427387904) (hls:ls.length<4611686018427387904) (hf:(flat ls).length<=1000000)
  (ht:∀t r,ks=t::r->RZ.R aj2 [tv t,.list false 0 [],.int .i64 1] []=some (.ret [.bool vt] []))
  (hJ:d<=16->∀b,jJ0 mm (avs A) d k id nm n m f1 (aa3 ns) f2 (tvs ks) f3 (lvs ls) f4 (cvs ch) b=some (.ret [.bool (!b&&X)] []))
  (hJt:jJ0 mm (avs A) d k id nm n m f1 (aa3 ns) f2 (tvs ks) f3 (lvs ls) f4 (cvs ch) true=some (.ret [.bool false] [])):
  ae1.b RZ.R RZ.D jJ0 k id nm n m f1 (aa3 ns) f2 (tvs ks) f3 (lvs ls) f4 (cvs ch) mm (avs A) d=some (.ret [.bool (ownB k id nm n m ns ks ls ch A d vt&&X)] []):=by
 unfold ae1.b ownB
 by_cases h1:k<0
 ·rw [decide_eq_true h1,cond_true,hJt]
  exact ac3 (by rw [decide_eq_false (show ¬(0<=k/\k<=20) by omega)];rfl)
 by_cases h2:k>20
 ·rw [decide_eq_false h1,decide_eq_true h2,cond_true,cond_false,hJt]
  exact ac3 (by rw [decide_eq_false (show ¬(0<=k/\k<=20) by omega)];rfl)
 by_cases h3:d>16
 ·rw [decide_eq_false h1,decide_eq_false h2,decide_eq_true h3,cond_true,cond_false,cond_false,hJt]
  exact ac3 (by rw [decide_eq_false (show ¬(d<=16) by omega),Bool.false_and,Bool.and_false];rfl)
 have J:=hJ (by omega)
 have hu:RZ.R as6 [.agg [.int .i64 k,.str id,.str nm,.int .i64 n,.int .i64 m,.list f1 1 (aa3 ns),.list f2 9 (tvs ks),.list f3 1 (lvs ls),.list f4 3 (cvs ch)]] []=some (.ret [.bool (unT vt ns n ls ks)] []):=by
  cases ks with
  | nil=>exact union_nil hls hf ⟨ad4 _,ak3 _⟩
  | cons t r=>
   have hv:=ht t r rfl
   have hno:=ap9 (t::r)
   obtain ⟨k',id',nm',n',m',g1,ns',g2,ks',g3,ls',g4,ch'⟩:=t
   rw [tv] at hv
   have:=union_is (k:=k) (id:=id) (nm:=nm) (n:=n) (m:=m) (f1:=f1) (f2:=f2) (f3:=f3) (f4:=f4) (ns:=ns) (e4:=cvs ch) (ls:=ls) (kr:=tvs r) (tk:=k') (tid:=id') (tnm:=nm') (tn:=n') (tm:=m') (g1:=g1) (g2:=g2) (g3:=g3) (g4:=g4) (tns:=ns') (t2:=tvs ks') (t3:=lvs ls') (t4:=cvs ch') hls hf hn (by rw [ad8];simp at hl;omega) rfl ⟨ap9 _,ap3 _,ak3 _⟩ ⟨by rw [tvs,tv] at hno;exact hno,ak3 _⟩ hv
   rw [ad8] at this
   rw [tvs,tv]
   exact this
 have hva:RZ.R aw8 [.agg [.int .i64 k,.str id,.str nm,.int .i64 n,.int .i64 m,.list f1 1 (aa3 ns),.list f2 9 (tvs ks),.list f3 1 (lvs ls),.list f4 3 (cvs ch)]] []=some (.ret [.bool (vaB id ns ks.length ch)] []):=by
  have:=value_is (k:=k) (id:=id) (nm:=nm) (n:=n) (m:=m) (f1:=f1) (f2:=f2) (f3:=f3) (f4:=f4) (ns:=ns) (l:=ch) (e2:=tvs ks) (e3:=lvs ls) hch hn (by rw [ad8];exact hl)
  rw [ad8] at this
  exact this
 have hsh:=shaped_is (k:=k) (id:=id) (nm:=nm) (n:=n) (m:=m) (f1:=f1) (f2:=f2) (f3:=f3) (f4:=f4) (ns:=ns) hn ⟨ap9 _,ap3 _,ak3 _⟩ hu hva
 rw [ad8] at hsh
 have hwi:=Within_is (k:=k) (n:=n) (m:=m) (f1:=f1) (f2:=f2) (f3:=f3) (f4:=f4) (A:=A) (mm:=mm) (by omega) hid hnm ⟨ad4 _,ap9 _,ap3 _,ak3 _⟩ hsh
 have hcl:=clean_is (k:=k) (id:=id) (nm:=nm) (n:=n) (m:=m) (f1:=f1) (f2:=f2) (f3:=f3) (f4:=f4) (e1:=aa3 ns) (e2:=tvs ks) (e3:=lvs ls) (e4:=cvs ch) (by omega) (by omega)
 have hno:=ad6 (.mk k id nm n m f1 ns f2 ks f3 ls f4 ch)
 simp only [tv] at hno
 have hnA:=aS6 A
 have hn1:aa0 [V.agg [.int .i64 k,.str id,.str nm,.int .i64 n,.int .i64 m,.list f1 1 (aa3 ns),.list f2 9 (tvs ks),.list f3 1 (lvs ls),.list f4 3 (cvs ch)]]=true:=by
  show (ad1 _&&_)=true
  rw [hno];rfl
 have hn2:aa0 [V.agg [.int .i64 k,.str id,.str nm,.int .i64 n,.int .i64 m,.list f1 1 (aa3 ns),.list f2 9 (tvs ks),.list f3 1 (lvs ls),.list f4 3 (cvs ch)],.list mm 3 (avs A)]=true:=by
  show (ad1 _&&(aa0 (avs A)&&_))=true
  rw [hno,hnA];rfl
 rw [decide_eq_false h1,decide_eq_false h2,decide_eq_false h3]
 simp -implicitDefEqProofs only [cond_false,vL,hn1,hn2,ck,cond_true,show (55:Nat)=ac0 from rfl,hcl,cP_B,aB_v,hwi,J,ac4]
 refine ac3 ?_
 rw [decide_eq_true (show 0<=k/\k<=20 by omega),decide_eq_true (show d<=16 by omega)]
 generalize af4 k id nm n m (aa3 ns) (tvs ks) (lvs ls) (cvs ch)=c
 generalize wiB _ _ _ _ _=w
 rw [show decide (k=0∨k=15)=((k==z0)||(k==15)) by
  rw [Bool.eq_iff_iff,decide_eq_true_eq,Bool.or_eq_true,beq_iff_eq,beq_iff_eq],show decide (1<d)=decide (d>1) from rfl]
 cases c<;>cases w<;>cases (k==z0)<;>cases (k==15)<;>cases decide (d>1)<;>cases X<;>rfl
end
mutual
theorem by7 :∀t:Ty,tOk t->flOk t->RV t
 | .mk k id nm n m f1 ns f2 ks f3 ls f4 ch,ht,hf=>by
  obtain ⟨hid,hnm,hn,hls,hch,hl,hks⟩:=ht
  obtain ⟨hf,hfs⟩:=hf
  have hR:=bu0 ks hks hfs
  have htg:∀t r,ks=t::r->RZ.R aj2 [tv t,.list false 0 [],.int .i64 1] []=some (.ret [.bool (rtB ks)] []):=by
   intro t r e
   subst e
   exact (hR t (List.mem_cons_self ..)).2
  constructor
  ·intro A mm d hA hd
   rw [tv,rvB]
   apply ae1.b_of
   refine rv_b (by omega) hid hnm hn hch hl hls.1 hf htg (fun hd b=>?_) ?_
   ·apply ae1.ad0
    exact rv_J0 hR hl hA hd b
   ·apply ae1.ad0
    rfl
  ·rw [tv,rvB]
   apply aG4.b_of
   refine rv_b (A:=[]) (by simp) hid hnm hn hch hl hls.1 hf htg (fun hd b=>?_) ?_
   ·apply aG4.ad0
    exact rv_J0 (A:=[]) hR hl (by simp) hd b
   ·apply aG4.ad0
    rfl
theorem bu0 :∀ks:List Ty,tsOk ks->flsOk ks->∀t∈ks,RV t
 | [],_,_,t,h=>by simp at h
 | a::r,ho,hf,t,h=>by
  have h1:=by7 a ho.1 hf.1
  rcases List.mem_cons.1 h with e | h
  ·rw [e];exact h1
  ·exact bu0 r ho.2 hf.2 t h
end
end Go.Proofs.YtflhfchgdpbhcaaGreat.E
set_option maxRecDepth 100000
namespace Go.Proofs.YtflhfchgdpbhcaaGreat.E
open Go
mutual
def cnT :Ty->Nat->Nat->Nat
 | .mk _ _ _ _ _ _ _ _ ks _ _ _ _,d,n=>if 16<d then 301 else cnL ks d (n+1)
def cnL :List Ty->Nat->Nat->Nat
 | [],_,n=>n
 | t::r,d,n=>if 300<n then n else cnL r d (cnT t (d+1) n)
end
mutual
theorem cnT_le :∀(t:Ty) (d n:Nat),n<=300->cnT t d n<=301
 | .mk _ _ _ _ _ _ _ _ ks _ _ _ _,d,n,h=>by
  rw [cnT]
  split
  ·exact Nat.le_refl _
  ·exact cnL_le ks d (n+1) (by omega)
theorem cnL_le :∀(l:List Ty) (d n:Nat),n<=301->cnL l d n<=301
 | [],d,n,h=>by rw [cnL];exact h
 | t::r,d,n,h=>by
  rw [cnL]
  split
  ·exact h
  ·exact cnL_le r d _ (cnT_le t (d+1) n (by omega))
end
def CN (t:Ty):Prop:=∀d n:Nat,d<1000->n<=300->RZ.R aw9 [tv t,.int .i64 (d:Int),.int .i64 (n:Int)] []=some (.ret [.int .i64 (cnT t d n:Nat)] [])
theorem cn_loop {ks:List Ty}(hR:∀t∈ks,CN t)(hl:ks.length<4611686018427387904){mm:Bool}{d:Nat}(hd:d<=16):∀(j i:Nat),i+j=ks.length->∀n:Nat,n<=301->ar5.L0 RZ d n mm (tvs ks) ks.length i=some (.ret [.int .i64 (cnL (ks.drop i) d n:Nat)] [])
 | 0,i,h,n,hn=>by
  obtain rfl:i=ks.length:=by omega
  apply ar5.ag6
  unfold ar5.L0b
  rw [ad9,List.drop_length,cond_false,cnL]
  rfl
 | j+1,i,h,n,hn=>by
  obtain ⟨t,ht⟩:=getL (l:=ks) (i:=i) (by omega)
  apply ar5.ag6
  unfold ar5.L0b
  rw [af3 (by omega),am5 ht,cnL]
  by_cases h3:300<n
  ·rw [if_pos h3]
   obtain ⟨k',id',nm',n',m',g1,ns',g2,ks',g3,ls',g4,ch'⟩:=t
   simp -implicitDefEqProofs only [cond_true,aE6 ht,tv,ah7,aC_v,aI_v,aS_v,aL_v,aN_v,decide_eq_true (show (n:Int)>300 by omega),aq6,vI]
  ·rw [if_neg h3]
   have ih:=cn_loop hR hl (mm:=mm) hd j (i+1) (by omega) (cnT t (d+1) n) (cnT_le _ _ _ (by omega))
   have hr:=hR t (List.mem_of_getElem? ht) (d+1) n (by omega) (by omega)
   have hno:=ad6 t
   have hw:w6 ((d:Int)+z1)=((d+1:Nat):Int):=w6_1 (by omega)
   obtain ⟨k',id',nm',n',m',g1,ns',g2,ks',g3,ls',g4,ch'⟩:=t
   simp only [tv] at hr hno
   have hn:∀x y,aa0 (V.agg [.int .i64 k',.str id',.str nm',.int .i64 n',.int .i64 m',.list g1 1 (aa3 ns'),.list g2 9 (tvs ks'),.list g3 1 (lvs ls'),.list g4 3 (cvs ch')]::[.int .i64 x,.int .i64 y])=true:=fun x y=>by
    show (ad1 _&&_)=true
    rw [hno];rfl
   simp -implicitDefEqProofs only [cond_true,aE6 ht,tv,ah7,aC_v,aI_v,aS_v,aL_v,aN_v,decide_eq_false (show ¬(n:Int)>300 by omega),cond_false,vI,hw,hn,ck,hr,cP_I,w6_1 (show i<9223372036854775807 by omega),ih]
mutual
theorem count_is :∀t:Ty,tOk t->CN t
 | .mk k id nm n m f1 ns f2 ks f3 ls f4 ch,ht=>by
  obtain ⟨hid,hnm,hn,hls,hch,hl,hks⟩:=ht
  have hR:=bD7 ks hks
  intro d n' hd hn'
  rw [tv,cnT]
  apply ar5.b_of
  unfold ar5.b
  by_cases h:16<d
  ·rw [if_pos h,decide_eq_true (show (d:Int)>16 by omega),cond_true];rfl
  ·rw [if_neg h,decide_eq_false (show ¬(d:Int)>16 by omega),cond_false,w6_1 (show n'<9223372036854775807 by omega),ad8]
   exact cn_loop hR hl (by omega) ks.length 0 (by omega) (n'+1) (by omega)
theorem bD7 :∀ks:List Ty,tsOk ks->∀t∈ks,CN t
 | [],_,t,h=>by simp at h
 | a::r,ho,t,h=>by
  have h1:=count_is a ho.1
  rcases List.mem_cons.1 h with e | h
  ·rw [e];exact h1
  ·exact bD7 r ho.2 t h
end
def smB (t:Ty):Bool:=decide (cnT t 1 0<=300)
theorem Small_is {t:Ty}(ht:tOk t):RZ.R aR0 [tv t] []=some (.ret [.bool (smB t)] []):=by
 have hc:=count_is t ht 1 0 (by omega) (by omega)
 have hno:=ad6 t
 unfold smB
 obtain ⟨k',id',nm',n',m',g1,ns',g2,ks',g3,ls',g4,ch'⟩:=t
 simp only [tv] at hc hno ⊢
 have hn:∀x y,aa0 (V.agg [.int .i64 k',.str id',.str nm',.int .i64 n',.int .i64 m',.list g1 1 (aa3 ns'),.list g2 9 (tvs ks'),.list g3 1 (lvs ls'),.list g4 3 (cvs ch')]::[.int .i64 x,.int .i64 y])=true:=fun x y=>by
  show (ad1 _&&_)=true
  rw [hno];rfl
 apply aY1.b_of
 unfold aY1.b
 simp -implicitDefEqProofs only [vI,hn,ck,cond_true]
 rw [show RZ.R aw9 [V.agg [.int .i64 k',.str id',.str nm',.int .i64 n',.int .i64 m',.list g1 1 (aa3 ns'),.list g2 9 (tvs ks'),.list g3 1 (lvs ls'),.list g4 3 (cvs ch')],.int .i64 1,.int .i64 0] []=_ from hc]
 simp -implicitDefEqProofs only [cP_I,aI_v,aq6,vB]
 refine ac3 ?_
 rw [Bool.eq_iff_iff,decide_eq_true_eq,decide_eq_true_eq]
 omega
def rVB (t:Ty):Bool:=smB t&&rvB t [] 1
theorem Valid_is {t:Ty}(ht:tOk t)(hf:flOk t):RZ.R am9 [tv t] []=some (.ret [.bool (rVB t)] []):=by
 have hs:=Small_is ht
 have hv:=(by7 t ht hf).2
 have hno:=ad6 t
 have J:∀b,aC3.J0 RZ b=some (.ret [.bool b] []):=fun b=>aC3.ad0 b rfl
 unfold rVB
 obtain ⟨k',id',nm',n',m',g1,ns',g2,ks',g3,ls',g4,ch'⟩:=t
 simp only [tv] at hs hv hno ⊢
 have hn1:aa0 [V.agg [.int .i64 k',.str id',.str nm',.int .i64 n',.int .i64 m',.list g1 1 (aa3 ns'),.list g2 9 (tvs ks'),.list g3 1 (lvs ls'),.list g4 3 (cvs ch')]]=true:=by
  show (ad1 _&&_)=true
  rw [hno];rfl
 have hn2:aa0 [V.agg [.int .i64 k',.str id',.str nm',.int .i64 n',.int .i64 m',.list g1 1 (aa3 ns'),.list g2 9 (tvs ks'),.list g3 1 (lvs ls'),.list g4 3 (cvs ch')],.list false 0 [],.int .i64 1]=true:=by
  show (ad1 _&&_)=true
  rw [hno];rfl
 apply aC3.b_of
 unfold aC3.b
 simp -implicitDefEqProofs only [vI,vL,hn1,hn2,ck,cond_true,hs,cP_B,aB_v,hv,J,ac4]
 refine ac3 ?_
 cases smB (.mk k' id' nm' n' m' g1 ns' g2 ks' g3 ls' g4 ch')<;>cases rvB (.mk k' id' nm' n' m' g1 ns' g2 ks' g3 ls' g4 ch') [] 1<;>rfl
end Go.Proofs.YtflhfchgdpbhcaaGreat.E
set_option maxRecDepth 100000
namespace Go.Proofs.YtflhfchgdpbhcaaGreat.E
open Go
mutual
def liOk :Ty->Prop
 | .mk _ _ _ _ _ _ ns _ ks _ ls _ ch=>ns.length<=1000000/\ks.length<=1000000/\ls.length<=1000000/\ch.length<=1000000/\lisOk ks
def lisOk :List Ty->Prop
 | []=>True
 | t::r=>liOk t/\lisOk r
end
theorem bk5 (x:Option Out):both x x=x:=by
 cases x with
 | none=>rfl
 | some o=>simp [both,bp6]
theorem allOf2 {x y o:Option Out}(h1:x=o)(h2:y=o):aE2 [x,y]=o:=by
 subst h1;subst h2
 exact bk5 _
theorem CALLF_r2 {g:Nat}(hx:(HH.ok g&&!HH.pure g&&Nat.beq (nres Tryz.prog g) 2&&(HH.ext g).isNone)=true){a b args:List V}{s s':List O}{v w:V}{K KP:V->List O->R}(hr:RZ.R g (a++args++b) s=some (.ret [v,w] s'))(ha:(a++args++b).all am0=true):aV9 RZ.R (.func (.func g) a b) args s K KP=K (.tup [v,w]) s':=by
 simp only [Bool.and_eq_true,Bool.not_eq_true'] at hx
 obtain ⟨⟨⟨h1,h2⟩,h3⟩,h4⟩:=hx
 have h3:=Nat.eq_of_beq_eq_true h3
 show aM4 Tryz.prog HH RZ.R (.func (.func g) a b) args s K KP=_
 unfold aM4 aB8
 cases he:HH.ext g with
 | some e=>rw [he] at h4;cases h4
 | none=>
  simp only [ck,show (!(HH.own g).headD false)=true from rfl,cond_true,h1,ha,h2,cond_false,hr,h3]
  rfl
section
variable {k:Int} {id nm:ByteArray} {n m:Int} {f1 f2 f3 f4:Bool} {e1 e2 e3 e4:List V}
theorem as3 (hid:sOk id)(hnm:sOk nm):RZ.R ar7 [.agg [.int .i64 k,.str id,.str nm,.int .i64 n,.int .i64 m,.list f1 1 e1,.list f2 9 e2,.list f3 1 e3,.list f4 3 e4]] []=some (.ret [.bool (iddB id&&af2 nm)] []):=by
 have J:∀b,aK7.J0 RZ b=some (.ret [.bool b] []):=fun b=>aK7.ad0 b rfl
 unfold sOk at hid hnm
 apply aK7.b_of
 unfold aK7.b
 simp -implicitDefEqProofs only [vS,bu9 (s:=id) (by omega),az3 (s:=nm) (by omega),cP_B,aB_v,J,ac4]
 refine ac3 ?_
 cases iddB id<;>cases af2 nm<;>rfl
def noB (id nm:ByteArray)(n m:Int)(e1 e2 e3 e4:List V):Bool:=eS id&&(eS nm&&((n==0)&&((m==0)&&(eL e1&&(eL e2&&(eL e3&&eL e4))))))
theorem bC0 (h1:e1.length<=1000000)(h2:e2.length<=1000000)(h3:e3.length<=1000000)(h4:e4.length<=1000000):RZ.R au5 [.agg [.int .i64 k,.str id,.str nm,.int .i64 n,.int .i64 m,.list f1 1 e1,.list f2 9 e2,.list f3 1 e3,.list f4 3 e4]] []=some (.ret [.bool (noB id nm n m e1 e2 e3 e4)] []):=by
 have J:∀b,az2.J0 RZ b=some (.ret [.bool b] []):=fun b=>az2.ad0 b rfl
 apply az2.b_of
 unfold az2.b noB eS eL
 rw [w6_i (x:=(e1.length:Int)+e2.length) (by omega),w6_i (x:=(e1.length:Int)+e2.length+e3.length) (by omega),w6_i (x:=(e1.length:Int)+e2.length+e3.length+e4.length) (by omega)]
 simp -implicitDefEqProofs only [J,ac4]
 refine ac3 ?_
 rw [show ((e1.length:Int)+e2.length+e3.length+e4.length==z0)=(((e1.length:Int)==0)&&(((e2.length:Int)==0)&&(((e3.length:Int)==0)&&((e4.length:Int)==0)))) by
  rw [Bool.eq_iff_iff];simp only [Bool.and_eq_true,beq_iff_eq];show (_=(0:Int))↔_;omega,show (n==z0)=(n==0) from rfl,show (m==z0)=(m==0) from rfl]
 generalize (((e1.length:Int)==0)&&(((e2.length:Int)==0)&&(((e3.length:Int)==0)&&((e4.length:Int)==0))))=x
 cases (id.toList==(⟨#[]⟩:ByteArray).toList)<;>cases (nm.toList==(⟨#[]⟩:ByteArray).toList)<;>cases (n==0)<;>cases (m==0)<;>cases x<;>rfl
end
def rF (g:Nat):V:=.func (.func g) [] []
def RL :List V:=[rF 60,rF 60,rF 60,rF 60,rF 60,rF 60,rF 60,rF 65,rF 66,rF 67,.func (.func 62) [] [.ref [.int .i64 1]],rF 68,rF 70,rF 71,rF 72,.func (.func 62) [] [.ref [.int .i64 0]],rF 73,rF 74,rF 60,rF 60,rF 76]
theorem by8 (x:Int)(s:List O):RZ.R aA7 [.int .i64 x] s=some (.ret [.func (.func 62) [] [.ref [.int .i64 x]]] s):=by
 apply bh9.b_of
 rfl
theorem rules_is (s:List O):RZ.R aH4 [] s=some (.ret [.agg RL] s):=by
 apply bc0.b_of
 unfold bc0.b
 simp -implicitDefEqProofs only [vI]
 rw [cS_v (by8 1 s),cS_v (by8 0 s)]
 rfl
section
variable {k:Int} {id nm:ByteArray} {n m:Int} {f1 f2 f3 f4:Bool} {ns:List ByteArray} {ks:List Ty} {ls:List (Bool×List Int)} {ch:List Pt} {a b:Nat}
def memB (ns:List ByteArray)(n least:Int):Bool:=nmsB ns&&((ns.length:Int)==n&&decide (least<=n)&&decide (n<=24))
theorem noT :aa0 [V.agg [.int .i64 k,.str id,.str nm,.int .i64 n,.int .i64 m,.list f1 1 (aa3 ns),.list f2 9 (tvs ks),.list f3 1 (lvs ls),.list f4 3 (cvs ch)]]=true:=by
 have hno:=ad6 (.mk k id nm n m f1 ns f2 ks f3 ls f4 ch)
 simp only [tv] at hno
 show (ad1 _&&_)=true
 rw [hno];rfl
theorem noN (x y:Int):aa0 [V.list f1 1 (aa3 ns),.int .i64 x,.int .i64 y]=true:=by simp [aa0,ad1,ad4]
theorem aU1 (s:List O):RZ.R 60 [.obj a b,.agg [.int .i64 k,.str id,.str nm,.int .i64 n,.int .i64 m,.list f1 1 (aa3 ns),.list f2 9 (tvs ks),.list f3 1 (lvs ls),.list f4 3 (cvs ch)]] s=some (.ret [.agg [.int .i64 k,.str id,.str nm,.int .i64 n,.int .i64 m,.list f1 1 (aa3 ns),.list f2 9 (tvs ks),.list f3 1 (lvs ls),.list f4 3 (cvs ch)],.bool true] s):=by
 apply bj0.b_of
 rfl
theorem r62_is (hid:sOk id)(hnm:sOk nm)(hn:lOk ns)(x:Int)(s:List O):RZ.R 62 [.obj a b,.agg [.int .i64 k,.str id,.str nm,.int .i64 n,.int .i64 m,.list f1 1 (aa3 ns),.list f2 9 (tvs ks),.list f3 1 (lvs ls),.list f4 3 (cvs ch)],.ref [.int .i64 x]] s=some (.ret [.agg [.int .i64 k,.str ⟨#[]⟩,.str ⟨#[]⟩,.int .i64 n,.int .i64 m,.list false 1 [],.list false 9 [],.list f3 1 (lvs ls),.list f4 3 (cvs ch)],.bool ((iddB id&&af2 nm)&&memB ns ks.length x)] s):=by
 have J:∀c,au2.J0 RZ c k id nm n m f1 (aa3 ns) f2 (tvs ks) f3 (lvs ls) f4 (cvs ch) [] [] [] [] s=some (.ret [.agg [.int .i64 k,.str ⟨#[]⟩,.str ⟨#[]⟩,.int .i64 n,.int .i64 m,.list false 1 [],.list false 9 [],.list f3 1 (lvs ls),.list f4 3 (cvs ch)],.bool c] s):=by
  intro c
  apply au2.ad0
  rfl
 apply au2.b_of
 unfold au2.b memB
 simp -implicitDefEqProofs only [vI,vL,noT,noN,ck,cond_true,as3 hid hnm,cP_B,aB_v,aP4 hn,J,ad8]
 cases (iddB id&&af2 nm)<;>rfl
theorem r65_is (s:List O):RZ.R 65 [.obj a b,.agg [.int .i64 k,.str id,.str nm,.int .i64 n,.int .i64 m,.list f1 1 (aa3 ns),.list f2 9 (tvs ks),.list f3 1 (lvs ls),.list f4 3 (cvs ch)]] s=some (.ret [.agg [.int .i64 k,.str id,.str nm,.int .i64 0,.int .i64 m,.list f1 1 (aa3 ns),.list f2 9 (tvs ks),.list f3 1 (lvs ls),.list f4 3 (cvs ch)],.bool (decide (n>=0)&&decide (n<=1000))] s):=by
 have J:∀c,az1.J0 RZ c k id nm n m f1 (aa3 ns) f2 (tvs ks) f3 (lvs ls) f4 (cvs ch) [] [] [] [] s=some (.ret [.agg [.int .i64 k,.str id,.str nm,.int .i64 0,.int .i64 m,.list f1 1 (aa3 ns),.list f2 9 (tvs ks),.list f3 1 (lvs ls),.list f4 3 (cvs ch)],.bool c] s):=fun c=>az1.ad0 _ _ _ _ _ _ _ _ _ _ _ _ _ _ _ _ _ _ _ rfl
 apply az1.b_of
 unfold az1.b
 simp -implicitDefEqProofs only [J]
 cases decide (n>=0)<;>rfl
theorem r66_is (s:List O):RZ.R 66 [.obj a b,.agg [.int .i64 k,.str id,.str nm,.int .i64 n,.int .i64 m,.list f1 1 (aa3 ns),.list f2 9 (tvs ks),.list f3 1 (lvs ls),.list f4 3 (cvs ch)]] s=some (.ret [.agg [.int .i64 k,.str id,.str nm,.int .i64 0,.int .i64 0,.list f1 1 (aa3 ns),.list f2 9 (tvs ks),.list f3 1 (lvs ls),.list f4 3 (cvs ch)],.bool (decide (n>=1)&&(decide (n<=31)&&(decide (m>=0)&&decide (m<=n))))] s):=by
 have J:∀c,az0.J0 RZ c k id nm n m f1 (aa3 ns) f2 (tvs ks) f3 (lvs ls) f4 (cvs ch) [] [] [] [] s=some (.ret [.agg [.int .i64 k,.str id,.str nm,.int .i64 0,.int .i64 0,.list f1 1 (aa3 ns),.list f2 9 (tvs ks),.list f3 1 (lvs ls),.list f4 3 (cvs ch)],.bool c] s):=fun c=>az0.ad0 _ _ _ _ _ _ _ _ _ _ _ _ _ _ _ _ _ _ _ rfl
 apply az0.b_of
 unfold az0.b
 simp -implicitDefEqProofs only [J]
 cases decide (n>=1)<;>cases decide (n<=31)<;>cases decide (m>=0)<;>rfl
theorem r67_is (hid:sOk id)(hnm:sOk nm)(hn:lOk ns)(s:List O):RZ.R 67 [.obj a b,.agg [.int .i64 k,.str id,.str nm,.int .i64 n,.int .i64 m,.list f1 1 (aa3 ns),.list f2 9 (tvs ks),.list f3 1 (lvs ls),.list f4 3 (cvs ch)]] s=some (.ret [.agg [.int .i64 k,.str ⟨#[]⟩,.str ⟨#[]⟩,.int .i64 n,.int .i64 m,.list false 1 [],.list f2 9 (tvs ks),.list f3 1 (lvs ls),.list f4 3 (cvs ch)],.bool ((iddB id&&af2 nm)&&memB ns ns.length 1)] s):=by
 have J:∀c,ay9.J0 RZ c k id nm n m f1 (aa3 ns) f2 (tvs ks) f3 (lvs ls) f4 (cvs ch) [] [] [] [] s=some (.ret [.agg [.int .i64 k,.str ⟨#[]⟩,.str ⟨#[]⟩,.int .i64 n,.int .i64 m,.list false 1 [],.list f2 9 (tvs ks),.list f3 1 (lvs ls),.list f4 3 (cvs ch)],.bool c] s):=fun c=>ay9.ad0 _ _ _ _ _ _ _ _ _ _ _ _ _ _ _ _ _ _ _ rfl
 apply ay9.b_of
 unfold ay9.b memB
 simp -implicitDefEqProofs only [vI,vL,noT,noN,ck,cond_true,as3 hid hnm,cP_B,aB_v,aP4 hn,J,ae8]
 cases (iddB id&&af2 nm)<;>rfl
def laT (ns:List ByteArray)(n:Int)(ls:List (Bool×List Int)):List Ty->Bool
 | []=>false
 | .mk tk _ _ _ _ _ tns _ _ _ _ _ _::_=>labB tk tns.length ns.length n ls
theorem r68_is (hid:sOk id)(hnm:sOk nm)(hn:lOk ns)(hk:ks.length<4611686018427387904)(hls:ls.length<4611686018427387904/\∀l∈ls,l.2.length<4611686018427387904)(s:List O):RZ.R 68 [.obj a b,.agg [.int .i64 k,.str id,.str nm,.int .i64 n,.int .i64 m,.list f1 1 (aa3 ns),.list f2 9 (tvs ks),.list f3 1 (lvs ls),.list f4 3 (cvs ch)]] s=some (.ret [.agg [.int .i64 k,.str ⟨#[]⟩,.str ⟨#[]⟩,.int .i64 0,.int .i64 m,.list false 1 [],.list false 9 [],.list false 1 [],.list f4 3 (cvs ch)],.bool ((iddB id&&af2 nm)&&(decide (0<ks.length)&&(memB ns ((ks.length-1:Nat):Int) 1&&laT ns n ls ks)))] s):=by
 have J:∀c,ay8.J0 RZ c k id nm n m f1 (aa3 ns) f2 (tvs ks) f3 (lvs ls) f4 (cvs ch) [] [] [] [] s=some (.ret [.agg [.int .i64 k,.str ⟨#[]⟩,.str ⟨#[]⟩,.int .i64 0,.int .i64 m,.list false 1 [],.list false 9 [],.list false 1 [],.list f4 3 (cvs ch)],.bool c] s):=fun c=>ay8.ad0 _ _ _ _ _ _ _ _ _ _ _ _ _ _ _ _ _ _ _ rfl
 apply ay8.b_of
 unfold ay8.b
 cases ks with
 | nil=>
  simp -implicitDefEqProofs only [vI,vL,noT,ck,cond_true,as3 hid hnm,cP_B,aB_v,J,ad8,List.length_nil,show decide (((0:Nat):Int)>0)=false from rfl,cond_false]
  cases (iddB id&&af2 nm)<;>rfl
 | cons t r=>
  have hno:=ap9 (t::r)
  obtain ⟨k',id',nm',n',m',g1,ns',g2,ks',g3,ls',g4,ch'⟩:=t
  obtain ⟨s',hl⟩:=labels_is (k:=k) (id:=id) (nm:=nm) (n:=n) (m:=m) (f1:=f1) (ns:=ns) (f2:=f2) (kv:=tvs (.mk k' id' nm' n' m' g1 ns' g2 ks' g3 ls' g4 ch'::r)) (f3:=f3) (f4:=f4) (e4:=cvs ch) (tk:=k') (tid:=id') (tnm:=nm') (tn:=n') (tm:=m') (g1:=g1) (tns:=ns') (g2:=g2) (t2:=tvs ks') (g3:=g3) (t3:=lvs ls') (g4:=g4) (t4:=cvs ch') (kr:=tvs r) hls ⟨ap9 _,ap3 _,ak3 _⟩ (by rw [tvs,tv])
  have hw:w6 ((((.mk k' id' nm' n' m' g1 ns' g2 ks' g3 ls' g4 ch'::r:List Ty).length:Nat):Int)-z1)=(r.length:Int):=by
   rw [List.length_cons]
   exact bt5 (by simp at hk;omega)
  simp -implicitDefEqProofs only [vI,vL,noT,noN,ck,cond_true,as3 hid hnm,cP_B,aB_v,aP4 hn,J,ad8,hw,show decide ((((.mk k' id' nm' n' m' g1 ns' g2 ks' g3 ls' g4 ch'::r:List Ty).length:Nat):Int)>0)=true from decide_eq_true (by simp)]
  rw [cP_v hl rfl]
  simp -implicitDefEqProofs only [aB_v]
  rw [show decide (0<(Ty.mk k' id' nm' n' m' g1 ns' g2 ks' g3 ls' g4 ch'::r).length)=true from decide_eq_true (by simp),show (Ty.mk k' id' nm' n' m' g1 ns' g2 ks' g3 ls' g4 ch'::r).length-1=r.length from rfl]
  unfold memB laT
  cases (iddB id&&af2 nm)<;>cases (nmsB ns&&((ns.length:Int)==(r.length:Int)&&decide (1<=(r.length:Int))&&decide ((r.length:Int)<=24)))<;>rfl
theorem r70_is (s:List O):RZ.R 70 [.obj a b,.agg [.int .i64 k,.str id,.str nm,.int .i64 n,.int .i64 m,.list f1 1 (aa3 ns),.list f2 9 (tvs ks),.list f3 1 (lvs ls),.list f4 3 (cvs ch)]] s=some (.ret [.agg [.int .i64 k,.str id,.str nm,.int .i64 0,.int .i64 m,.list f1 1 (aa3 ns),.list false 9 [],.list f3 1 (lvs ls),.list f4 3 (cvs ch)],.bool (decide (n>=0)&&(decide (n<=1000)&&((ks.length:Int)==1)))] s):=by
 have J:∀c,ay7.J0 RZ c k id nm n m f1 (aa3 ns) f2 (tvs ks) f3 (lvs ls) f4 (cvs ch) [] [] [] [] s=some (.ret [.agg [.int .i64 k,.str id,.str nm,.int .i64 0,.int .i64 m,.list f1 1 (aa3 ns),.list false 9 [],.list f3 1 (lvs ls),.list f4 3 (cvs ch)],.bool c] s):=fun c=>ay7.ad0 _ _ _ _ _ _ _ _ _ _ _ _ _ _ _ _ _ _ _ rfl
 apply ay7.b_of
 unfold ay7.b
 simp -implicitDefEqProofs only [J,ad8]
 cases decide (n>=0)<;>cases decide (n<=1000)<;>rfl
theorem r71_is (s:List O):RZ.R 71 [.obj a b,.agg [.int .i64 k,.str id,.str nm,.int .i64 n,.int .i64 m,.list f1 1 (aa3 ns),.list f2 9 (tvs ks),.list f3 1 (lvs ls),.list f4 3 (cvs ch)]] s=some (.ret [.agg [.int .i64 k,.str id,.str nm,.int .i64 0,.int .i64 m,.list f1 1 (aa3 ns),.list false 9 [],.list f3 1 (lvs ls),.list f4 3 (cvs ch)],.bool (decide (n>=1)&&(decide (n<=1000)&&((ks.length:Int)==1)))] s):=by
 have J:∀c,ay6.J0 RZ c k id nm n m f1 (aa3 ns) f2 (tvs ks) f3 (lvs ls) f4 (cvs ch) [] [] [] [] s=some (.ret [.agg [.int .i64 k,.str id,.str nm,.int .i64 0,.int .i64 m,.list f1 1 (aa3 ns),.list false 9 [],.list f3 1 (lvs ls),.list f4 3 (cvs ch)],.bool c] s):=fun c=>ay6.ad0 _ _ _ _ _ _ _ _ _ _ _ _ _ _ _ _ _ _ _ rfl
 apply ay6.b_of
 unfold ay6.b
 simp -implicitDefEqProofs only [J,ad8]
 cases decide (n>=1)<;>cases decide (n<=1000)<;>rfl
theorem r72_is (hid:sOk id)(hnm:sOk nm)(s:List O):RZ.R 72 [.obj a b,.agg [.int .i64 k,.str id,.str nm,.int .i64 n,.int .i64 m,.list f1 1 (aa3 ns),.list f2 9 (tvs ks),.list f3 1 (lvs ls),.list f4 3 (cvs ch)]] s=some (.ret [.agg [.int .i64 k,.str ⟨#[]⟩,.str ⟨#[]⟩,.int .i64 n,.int .i64 m,.list f1 1 (aa3 ns),.list false 9 [],.list f3 1 (lvs ls),.list f4 3 (cvs ch)],.bool ((iddB id&&af2 nm)&&((ks.length:Int)==1))] s):=by
 have J:∀c,ay5.J0 RZ c k id nm n m f1 (aa3 ns) f2 (tvs ks) f3 (lvs ls) f4 (cvs ch) [] [] [] [] s=some (.ret [.agg [.int .i64 k,.str ⟨#[]⟩,.str ⟨#[]⟩,.int .i64 n,.int .i64 m,.list f1 1 (aa3 ns),.list false 9 [],.list f3 1 (lvs ls),.list f4 3 (cvs ch)],.bool c] s):=fun c=>ay5.ad0 _ _ _ _ _ _ _ _ _ _ _ _ _ _ _ _ _ _ _ rfl
 apply ay5.b_of
 unfold ay5.b
 simp -implicitDefEqProofs only [noT,ck,cond_true,as3 hid hnm,cP_B,aB_v,J,ad8]
 cases (iddB id&&af2 nm)<;>rfl
theorem r73_is (hid:sOk id)(hnm:sOk nm)(s:List O):RZ.R 73 [.obj a b,.agg [.int .i64 k,.str id,.str nm,.int .i64 n,.int .i64 m,.list f1 1 (aa3 ns),.list f2 9 (tvs ks),.list f3 1 (lvs ls),.list f4 3 (cvs ch)]] s=some (.ret [.agg [.int .i64 k,.str ⟨#[]⟩,.str ⟨#[]⟩,.int .i64 n,.int .i64 m,.list f1 1 (aa3 ns),.list f2 9 (tvs ks),.list f3 1 (lvs ls),.list f4 3 (cvs ch)],.bool (iddB id&&af2 nm)] s):=by
 apply aQ7.b_of
 unfold aQ7.b
 simp -implicitDefEqProofs only [noT,ck,cond_true,as3 hid hnm,cP_B,aB_v,aq6,vB]
theorem r74_is (hnm:sOk nm)(hn:lOk ns)(hch:cOk ch)(hk:ks.length<4611686018427387904)(s:List O):RZ.R 74 [.obj a b,.agg [.int .i64 k,.str id,.str nm,.int .i64 n,.int .i64 m,.list f1 1 (aa3 ns),.list f2 9 (tvs ks),.list f3 1 (lvs ls),.list f4 3 (cvs ch)]] s=some (.ret [.agg [.int .i64 k,.str ⟨#[]⟩,.str ⟨#[]⟩,.int .i64 n,.int .i64 m,.list false 1 [],.list false 9 [],.list f3 1 (lvs ls),.list false 3 []],.bool (af2 nm&&(memB ns ks.length 0&&aF2 ks.length id ch))] s):=by
 have J:∀c,aw7.J0 RZ c k id nm n m f1 (aa3 ns) f2 (tvs ks) f3 (lvs ls) f4 (cvs ch) [] [] [] [] s=some (.ret [.agg [.int .i64 k,.str ⟨#[]⟩,.str ⟨#[]⟩,.int .i64 n,.int .i64 m,.list false 1 [],.list false 9 [],.list f3 1 (lvs ls),.list false 3 []],.bool c] s):=fun c=>aw7.ad0 _ _ _ _ _ _ _ _ _ _ _ _ _ _ _ _ _ _ _ rfl
 obtain ⟨s',hc⟩:=chain_is (k:=k) (id:=id) (nm:=nm) (n:=n) (m:=m) (f1:=f1) (f2:=f2) (f3:=f3) (f4:=f4) (e1:=aa3 ns) (e2:=tvs ks) (e3:=lvs ls) (l:=ch) hch (by rw [ad8];exact hk)
 rw [ad8] at hc
 unfold sOk at hnm
 apply aw7.b_of
 unfold aw7.b
 simp -implicitDefEqProofs only [vI,vS,vL,noT,noN,ck,cond_true,az3 (s:=nm) (by omega),cP_B,aB_v,aP4 hn,J,ad8]
 rw [cP_v hc rfl]
 simp -implicitDefEqProofs only [aB_v]
 unfold memB
 cases af2 nm<;>cases (nmsB ns&&((ns.length:Int)==(ks.length:Int)&&decide ((0:Int)<=(ks.length:Int))&&decide ((ks.length:Int)<=24)))<;>rfl
end
end Go.Proofs.YtflhfchgdpbhcaaGreat.E
set_option maxRecDepth 100000
namespace Go.Proofs.YtflhfchgdpbhcaaGreat.E
open Go
theorem ax5 {s:List O}{i j:Nat}{cs:List (V×Bool)}{v:V}{f:Bool}(h:s[i]? =some (.box cs))(hj:cs[j]? =some (v,f))(K:V->R):rd1 s i j K=K v:=by
 unfold rd1
 rw [h]
 simp only [hj]
theorem aX1 {s:List O}{i:Nat}{x y:V×Bool}(h:s[i]? =some (.box [x]))(K:List O->R):wrO s i 0 [y] K=K (s.set i (.box [y])):=by
 unfold wrO
 rw [h]
 rfl
def ldO (id:ByteArray):List Ar->Bool->Option Bool
 | [],_=>none
 | a::r,q=>if a.1=id then some (a.2.1==17||((q||a.2.2)&&(a.2.1==10||a.2.1==11))) else ldO id r (q||a.2.2)
def bh8 (id:ByteArray)(A:List Ar):Bool:=(ldO id A.reverse false).getD false
def LT (id:ByteArray)(n:Nat)(v:V):List V:=[vN,vN,vN,(vR [(vS id)]),(vO n 0),(vO (n+1) 0),vN,vN,vN,vN,vN,vN,v,vN,vN,vN,vN,vN,vN,vN,vN,vN,vN,vN,vN,vN,vN,vN,vN,vN,vN,vN,vN,vN,vN,vN,vN,vN,vN,vN]
structure LI (s s':List O)(lp:O)(q:Bool):Prop where
 len:s'.length=s.length+3
 low:∀i,i<s.length->s'[i]? =s[i]?
 res:∃r,s'[s.length]? =some (.box [(.bool r,false)])
 seq:s'[s.length+1]? =some (.box [(.bool q,false)])
 lop:s'[s.length+2]? =some lp
theorem LI.setq {s s':List O}{lp:O}{q:Bool}(h:LI s s' lp q)(q':Bool):LI s (s'.set (s.length+1) (.box [(.bool q',false)])) lp q' where
 len:=by rw [List.length_set,h.len]
 low:=fun i hi=>by rw [List.getElem?_set_ne (by omega)];exact h.low i hi
 res:=by obtain ⟨r,hr⟩:=h.res;exact ⟨r,by rw [List.getElem?_set_ne (by omega)];exact hr⟩
 seq:=by rw [List.getElem?_set_self (by rw [h.len];omega)]
 lop:=by rw [List.getElem?_set_ne (by omega)];exact h.lop
theorem LI.setl {s s':List O}{lp:O}{q:Bool}(h:LI s s' lp q)(lp':O):LI s (s'.set (s.length+2) lp') lp' q where
 len:=by rw [List.length_set,h.len]
 low:=fun i hi=>by rw [List.getElem?_set_ne (by omega)];exact h.low i hi
 res:=by obtain ⟨r,hr⟩:=h.res;exact ⟨r,by rw [List.getElem?_set_ne (by omega)];exact hr⟩
 seq:=by rw [List.getElem?_set_ne (by omega)];exact h.seq
 lop:=by rw [List.getElem?_set_self (by rw [h.len];omega)]
theorem LI.setr {s s':List O}{lp:O}{q:Bool}(h:LI s s' lp q)(r:Bool):LI s (s'.set s.length (.box [(.bool r,false)])) lp q/\(s'.set s.length (.box [(.bool r,false)]))[s.length]? =some (.box [(.bool r,false)]):=by
 have e:(s'.set s.length (.box [(.bool r,false)]))[s.length]? =some (.box [(.bool r,false)]):=by rw [List.getElem?_set_self (by rw [h.len];omega)]
 exact ⟨{len:=by rw [List.length_set,h.len],low:=fun i hi=>by rw [List.getElem?_set_ne (by omega)];exact h.low i hi,res:=⟨r,e⟩,seq:=by rw [List.getElem?_set_ne (by omega)];exact h.seq,lop:=by rw [List.getElem?_set_ne (by omega)];exact h.lop},e⟩
def lp0 (id:ByteArray)(n:Nat)(v:V):O:=.loop 77 [13,14] (LT id n v) 0 none
def lp1 (id:ByteArray)(n:Nat)(v:V):O:=.loop 77 [13,14] (LT id n v) 1 none
def lp2 (id:ByteArray)(n:Nat)(v:V):O:=.loop 77 [13,14] (LT id n v) 2 (some none)
theorem endK_1 {s:List O}{id:ByteArray}{n y:Nat}{v:V}(h:s[y]? =some (lp1 id n v)):endK s y none=some (.ret [.bool true] (s.set y (lp0 id n v)))/\endK s y (some none)=some (.ret [.bool false] (s.set y (lp2 id n v))):=by
 unfold endK
 rw [h]
 exact ⟨rfl,rfl⟩
theorem begK_1 {s:List O}{id:ByteArray}{n y:Nat}{v:V}(h:s[y]? =some (lp0 id n v))(K:List O->R):begK s y K=K (s.set y (lp1 id n v)):=by
 unfold begK
 rw [h]
 rfl
theorem leads_round {s s':List O}{id:ByteArray}{v:V}{q:Bool}(hv:nlB 0 [(v,.no)]=true)(h:LI s s' (lp0 id s.length v) q)(i:Int)(a:Ar):
  ∃s'',RZ.R (SIZE+(s.length+2)) [.int .i64 i,av a] s'=some (.ret [.bool (!decide (a.1=id))] s'') /\
   (bif decide (a.1=id) then LI s s'' (lp2 id s.length v) (q||a.2.2)/\s''[s.length]? =some (.box [(.bool (a.2.1==17||((q||a.2.2)&&(a.2.1==10||a.2.1==11))),false)]) else LI s s'' (lp0 id s.length v) (q||a.2.2)):=by
 obtain ⟨aid,ak,aq⟩:=a
 have h1:=h.setl (lp1 id s.length v)
 have h2:=h1.setq (q||aq)
 generalize hs2:(s'.set (s.length+2) (lp1 id s.length v)).set (s.length+1) (.box [(.bool (q||aq),false)])=s2 at h2
 obtain ⟨r0,hr0⟩:=h2.res
 have J2:∀s3,s3[s.length+2]? =some (lp1 id s.length v)->ab6.J2 RZ (s.length+2) v i s3=some (.ret [.bool false] (s3.set (s.length+2) (lp2 id s.length v))):=by
  intro s3 h3
  apply ab6.ak5
  unfold ab6.J2b
  exact (endK_1 h3).2
 have key:∃s'',ab6.J1 RZ (s.length+2) id s.length (s.length+1) v i aid ak aq s2=some (.ret [.bool (!decide (aid=id))] s'') /\
   (bif decide (aid=id) then LI s s'' (lp2 id s.length v) (q||aq)/\s''[s.length]? =some (.box [(.bool (ak==17||((q||aq)&&(ak==10||ak==11))),false)]) else LI s s'' (lp0 id s.length v) (q||aq)):=by
  by_cases e:aid=id
  ·have fin:∀b:Bool,(ak==17||((q||aq)&&(ak==10||ak==11)))=b->∃s'',(wrO s2 s.length 0 [((vB b),false)] fun s10=>ck (nlB 0 [(v,.no)]) (ab6.J2 RZ (s.length+2) v i s10))=some (.ret [.bool false] s'')/\LI s s'' (lp2 id s.length v) (q||aq)/\s''[s.length]? =some (.box [(.bool (ak==17||((q||aq)&&(ak==10||ak==11))),false)]):=by
    intro b hb
    obtain ⟨h3,h4⟩:=h2.setr b
    have h5:=h3.setl (lp2 id s.length v)
    refine ⟨_,?_,h5,?_⟩
    ·rw [aX1 hr0,hv]
     simp only [ck,cond_true]
     exact J2 _ h3.lop
    ·rw [List.getElem?_set_ne (by omega),h4,hb]
   rw [decide_eq_true e]
   simp only [Bool.not_true,cond_true]
   cases h17:(ak==17) with
   | true=>
    obtain ⟨s'',e1,e2,e3⟩:=fin true (by rw [h17];rfl)
    rw [h17] at e3
    refine ⟨s'',?_,e2,e3⟩
    apply ab6.an7
    unfold ab6.J1b
    rw [strB,decide_eq_true e,cond_true,h17,cond_true]
    exact e1
   | false=>
    cases hq:(q||aq) with
    | false=>
     obtain ⟨s'',e1,e2,e3⟩:=fin false (by rw [h17,hq];rfl)
     rw [hq,h17] at e3
     rw [hq] at e2
     refine ⟨s'',?_,e2,e3⟩
     apply ab6.an7
     unfold ab6.J1b
     rw [strB,decide_eq_true e,cond_true,h17,cond_false,ax5 h2.seq (j:=0) rfl,aB_v,hq,cond_false]
     exact e1
    | true=>
     cases h10:(ak==10) with
     | true=>
      obtain ⟨s'',e1,e2,e3⟩:=fin true (by rw [h17,hq,h10];rfl)
      rw [hq,h17,h10] at e3
      rw [hq] at e2
      refine ⟨s'',?_,e2,e3⟩
      apply ab6.an7
      unfold ab6.J1b
      rw [strB,decide_eq_true e,cond_true,h17,cond_false,ax5 h2.seq (j:=0) rfl,aB_v,hq,cond_true,h10,cond_true]
      exact e1
     | false=>
      obtain ⟨s'',e1,e2,e3⟩:=fin (ak==11) (by rw [h17,hq,h10];rfl)
      rw [hq,h17,h10] at e3
      rw [hq] at e2
      refine ⟨s'',?_,e2,e3⟩
      apply ab6.an7
      unfold ab6.J1b
      rw [strB,decide_eq_true e,cond_true,h17,cond_false,ax5 h2.seq (j:=0) rfl,aB_v,hq,cond_true,h10,cond_false]
      exact e1
  ·rw [decide_eq_false e]
   simp only [Bool.not_false,cond_false]
   refine ⟨_,?_,h2.setl (lp0 id s.length v)⟩
   apply ab6.an7
   unfold ab6.J1b
   rw [strB,decide_eq_false e,cond_false,hv]
   simp only [ck,cond_true]
   exact (endK_1 h2.lop).1
 obtain ⟨s'',k1,k2⟩:=key
 refine ⟨s'',?_,k2⟩
 refine roundy_z (Z:=RZ) (f:=77) (ps:=[13,14]) (t:=LT id s.length v) (q:=0) (pend:=none) h.lop rfl RZ_ok ?_
 refine (ab6.R0b_eq RZ (s.length+2) id s.length (s.length+1) v s' i aid ak aq).trans ?_
 unfold ab6.R0b
 rw [begK_1 h.lop,ax5 h1.seq (j:=0) rfl,aB_v]
 cases q with
 | true=>
  rw [cond_true,aX1 h1.seq]
  rw [←hs2] at k1
  exact k1
 | false=>
  rw [cond_false,aX1 h1.seq]
  rw [←hs2] at k1
  exact k1
end Go.Proofs.YtflhfchgdpbhcaaGreat.E
