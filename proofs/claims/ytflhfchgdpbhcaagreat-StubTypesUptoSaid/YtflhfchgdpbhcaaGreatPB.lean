/- It is proved of functions that ask whether a type is valid what they answer at plain data. No condition beyond the lemmas' own. -/
import Derived.Test.YtflhfchgdpbhcaaGreatPA
set_option maxRecDepth 100000
namespace Go.Proofs.YtflhfchgdpbhcaaGreat.E
open Go
def ms (xs:List Int):List (V×V):=xs.map fun x=>(V.int .i64 x,V.bool true)
def hasI (x:Int):List Int->Bool
 | []=>false
 | y::r=>decide (x=y)||hasI x r
theorem hasI_app (x:Int):∀l r,hasI x (l++r)=(hasI x l||hasI x r)
 | [],r=>rfl
 | y::l,r=>by simp only [List.cons_append,hasI,hasI_app x l r,Bool.or_assoc]
theorem findV_ms (x:Int):∀xs,ba8 (.int .i64 x) (ms xs)=some (bif hasI x xs then some (.bool true) else none)
 | []=>rfl
 | y::r=>by
  show ((aM3 (.int .i64 x) (.int .i64 y)).bind fun b=>bif b then some (some (V.bool true)) else ba8 (.int .i64 x) (ms r))=_
  simp only [aM3,if_true,Option.bind_some,findV_ms x r,hasI]
  by_cases h:x=y
  ·simp [h]
  ·rw [show (x==y)=false from beq_eq_false_iff_ne.2 h,decide_eq_false h];rfl
theorem putV_ms (x:Int):∀xs,hasI x xs=false->putV (.int .i64 x) (.bool true) (ms xs)=some (ms (xs++[x]))
 | [],_=>rfl
 | y::r,h=>by
  simp only [hasI,Bool.or_eq_false_iff,decide_eq_false_iff_not] at h
  show ((aM3 (.int .i64 x) (.int .i64 y)).bind fun b=>bif b then some ((V.int .i64 x,V.bool true)::ms r) else (putV (.int .i64 x) (.bool true) (ms r)).map ((V.int .i64 y,V.bool true)::·))=_
  simp only [aM3,if_true,Option.bind_some,putV_ms x r h.2,show (x==y)=false from beq_eq_false_iff_ne.2 h.1,cond_false,Option.map_some]
  rfl
theorem ms_len (xs:List Int):(ms xs).length=xs.length:=List.length_map _
def inL (fit:Int->Bool):List Int->List Int->Option (List Int)
 | [],seen=>some seen
 | x::r,seen=>if hasI x seen||!fit x then none else inL fit r (seen++[x])
def ouL (fit:Int->Bool)(n:Int):List (Bool×List Int)->Nat->List Int->Option (List Int)
 | [],_,seen=>some seen
 | l::r,i,seen=>if l.2=[]/\(i:Int)≠n then none else (inL fit l.2 seen).bind (ouL fit n r (i+1))
def endL (k:Int)(nn:Nat)(n:Int)(seen:List Int):Bool:=decide (seen.length<=256)&&!((decide (k=1/\seen.length=2)||decide (k=9/\seen.length=nn))&&decide (0<=n))
section
variable {k:Int} {id nm:ByteArray} {n m:Int} {f1 f2 f3 f4:Bool} {e1 e2 e4:List V} {ls:List (Bool×List Int)}
variable {tk:Int} {tid tnm:ByteArray} {tn tm:Int} {g1 g2 g3 g4:Bool} {t1 t2 t3 t4:List V}
theorem lab_in {i:Nat}{mm:Bool}{l:List Int}(hl:l.length<4611686018427387904)(hi:i<4611686018427387904){b:List Int->Option Bool}
  (hn:∀seen c,∃s',ab1.L1 RZ k id nm n m f1 e1 f2 e2 f3 (lvs ls) f4 e4 f3 (lvs ls) ls.length ((i+1:Nat):Int) tk tid tnm tn tm g1 t1 g2 t2 g3 t3 g4 t4 (ms seen) c=some (.ret [.bool ((b seen).getD false)] s')) (ho:aa0 t1=true/\aa0 t2=true/\aa0 t3=true/\aa0 t4=true):∀(k' j:Nat),j+k'=l.length->∀seen c,
  ∃s',ab1.L3 RZ k id nm n m f1 e1 f2 e2 f3 (lvs ls) f4 e4 f3 (lvs ls) ls.length i mm (ints l) l.length j tk tid tnm tn tm g1 t1 g2 t2 g3 t3 g4 t4 (ms seen) c=some (.ret [.bool (((inL (fitB tk t1.length) (l.drop j) seen).bind b).getD false)] s')
 | 0,j,h,seen,c=>by
  obtain rfl:j=l.length:=by omega
  obtain ⟨s',hs⟩:=hn seen c
  refine ⟨s',?_⟩
  apply ab1.aT4
  unfold ab1.L3b
  rw [ad9,List.drop_length]
  simp only [cond_false,inL,Option.bind_some]
  rw [w6_1 (show i<9223372036854775807 by omega)]
  exact hs
 | k'+1,j,h,seen,c=>by
  obtain ⟨x,hx⟩:=getL (l:=l) (i:=j) (by omega)
  have hno:aa0 [V.agg [.int .i64 tk,.str tid,.str tnm,.int .i64 tn,.int .i64 tm,.list g1 1 t1,.list g2 9 t2,.list g3 1 t3,.list g4 3 t4],.int .i64 x]=true:=by simp [aa0,ad1,ho]
  have J4:∀q,(q=false->hasI x seen=false)->∃s',ab1.J4 RZ k id nm n m f1 e1 f2 e2 f3 (lvs ls) f4 e4 x f3 (lvs ls) ls.length i mm (ints l) l.length j q tk tid tnm tn tm g1 t1 g2 t2 g3 t3 g4 t4 (ms seen) c=some (.ret [.bool (bif q then false else ((inL (fitB tk t1.length) (l.drop (j+1)) (seen++[x])).bind b).getD false)] s'):=by
   intro q hq
   cases q with
   | true=>exact ⟨_,ab1.aS3 _ _ _ _ _ _ _ _ _ _ _ _ _ _ _ _ _ _ _ _ _ _ _ _ _ _ _ _ _ _ _ _ _ _ _ _ _ _ rfl⟩
   | false=>
    obtain ⟨s',hs⟩:=lab_in hl hi hn ho k' (j+1) (by omega) (seen++[x]) (if (ms (seen++[x])).length=(ms seen).length then c else c+1)
    refine ⟨s',?_⟩
    apply ab1.aS3
    unfold ab1.J4b
    simp only [cond_false,putK,vI,vB,putV_ms x seen (hq rfl)]
    rw [w6_1 (show j<9223372036854775807 by omega)]
    exact hs
  have key:∃q,(q=false->hasI x seen=false)/\ab1.L3b RZ.R RZ.D (ab1.L1 RZ) (ab1.J4 RZ) k id nm n m f1 e1 f2 e2 f3 (lvs ls) f4 e4 f3 (lvs ls) ls.length i mm (ints l) l.length j tk tid tnm tn tm g1 t1 g2 t2 g3 t3 g4 t4 (ms seen) c=ab1.J4 RZ k id nm n m f1 e1 f2 e2 f3 (lvs ls) f4 e4 x f3 (lvs ls) ls.length i mm (ints l) l.length j q tk tid tnm tn tm g1 t1 g2 t2 g3 t3 g4 t4 (ms seen) c/\q=(hasI x seen||!fitB tk t1.length x):=by
   unfold ab1.L3b
   rw [af3 (by omega)]
   simp only [cond_true,ints_at hx,bs1,aC_v,aI_v,aN_v,bv3,vI,vB,findV_ms]
   cases hh:hasI x seen with
   | true=>exact ⟨true,by simp,rfl,by simp⟩
   | false=>
    simp only [cond_false,Option.getD_none,aB_v,cond_false,hno,ck,cond_true,kind_fits_is,cP_B]
    exact ⟨_,fun _=>by simp,rfl,by simp⟩
  obtain ⟨q,hq,hk,he⟩:=key
  obtain ⟨s',hs⟩:=J4 q hq
  refine ⟨s',?_⟩
  apply ab1.aT4
  rw [hk,hs,am5 hx]
  simp only [inL,←he]
  cases q<;>rfl
theorem lab_end (seen:List Int)(c:Nat):∃s',ab1.L1 RZ k id nm n m f1 e1 f2 e2 f3 (lvs ls) f4 e4 f3 (lvs ls) ls.length ls.length tk tid tnm tn tm g1 t1 g2 t2 g3 t3 g4 t4 (ms seen) c=some (.ret [.bool (endL tk t1.length n seen)] s'):=by
 refine ⟨[O.map (ms seen) c],?_⟩
 have J6:∀b,ab1.J6 RZ b (ms seen) c=some (.ret [.bool b] [O.map (ms seen) c]):=fun b=>ab1.aV8 b _ _ rfl
 have J5:∀b,ab1.J5 RZ k id nm n m f1 e1 f2 e2 f3 (lvs ls) f4 e4 b (ms seen) c=some (.ret [.bool (decide (seen.length<=256)&&!(b&&decide (0<=n)))] [O.map (ms seen) c]):=by
  intro b
  apply ab1.aM6
  unfold ab1.J5b
  simp only [J6,ac4,ms_len]
  refine ac3 ?_
  rw [show decide ((seen.length:Int)<=256)=decide (seen.length<=256) by by_cases h:seen.length<=256<;>simp [h]<;>omega,show decide (n>=0)=decide (0<=n) from rfl]
  cases decide (seen.length<=256)<;>cases b<;>cases decide (0<=n)<;>rfl
 apply ab1.ak4
 unfold ab1.L1b
 rw [ad9]
 simp only [cond_false,J5,ac4,ms_len]
 refine ac3 ?_
 unfold endL
 generalize decide (seen.length<=256)=x
 generalize decide (0<=n)=y
 rw [show ((seen.length:Int)==(2:Int))=decide (seen.length=2) by rw [Bool.eq_iff_iff,beq_iff_eq,decide_eq_true_eq];omega,show ((seen.length:Int)==(t1.length:Int))=decide (seen.length=t1.length) by rw [Bool.eq_iff_iff,beq_iff_eq,decide_eq_true_eq];omega]
 simp only [bc4]
 by_cases h1:tk=1
 ·rw [if_pos (show tk=z1 from h1)]
  have h9:¬tk=9:=by omega
  simp only [h1,true_and,show ¬((1:Int)=9) by decide,false_and,decide_false,Bool.or_false,if_false]
  cases decide (seen.length=2)<;>cases x<;>cases y<;>rfl
 ·rw [if_neg (show ¬tk=z1 from h1)]
  by_cases h9:tk=9
  ·simp only [h9,if_true,show ¬((9:Int)=1) by decide,false_and,decide_false,Bool.false_or,true_and]
  ·simp only [h1,h9,if_false,false_and,decide_false,Bool.or_self]
theorem lab_out (hls:ls.length<4611686018427387904/\∀l∈ls,l.2.length<4611686018427387904)(ho:aa0 t1=true/\aa0 t2=true/\aa0 t3=true/\aa0 t4=true):∀(k' i:Nat),i+k'=ls.length->∀seen c,
  ∃s',ab1.L1 RZ k id nm n m f1 e1 f2 e2 f3 (lvs ls) f4 e4 f3 (lvs ls) ls.length i tk tid tnm tn tm g1 t1 g2 t2 g3 t3 g4 t4 (ms seen) c=some (.ret [.bool (((ouL (fitB tk t1.length) n (ls.drop i) i seen).map (endL tk t1.length n)).getD false)] s')
 | 0,i,h,seen,c=>by
  obtain rfl:i=ls.length:=by omega
  rw [List.drop_length]
  exact lab_end seen c
 | k'+1,i,h,seen,c=>by
  obtain ⟨x,hx⟩:=getL (l:=ls) (i:=i) (by omega)
  have hxl:=hls.2 x (List.mem_of_getElem? hx)
  have ih:=fun seen c=>lab_out hls ho k' (i+1) (by omega) seen c
  obtain ⟨s3,h3⟩:=lab_in (mm:=x.1) (l:=x.2) hxl (show i<4611686018427387904 by omega) (b:=fun seen=>(ouL (fitB tk t1.length) n (ls.drop (i+1)) (i+1) seen).map (endL tk t1.length n)) ih ho x.2.length 0 (by omega) seen c
  have J2:∀b,∃s',ab1.J2 RZ k id nm n m f1 e1 f2 e2 f3 (lvs ls) f4 e4 x.1 (ints x.2) f3 (lvs ls) ls.length i b tk tid tnm tn tm g1 t1 g2 t2 g3 t3 g4 t4 (ms seen) c=some (.ret [.bool (bif b then false else ((inL (fitB tk t1.length) x.2 seen).bind fun seen=>(ouL (fitB tk t1.length) n (ls.drop (i+1)) (i+1) seen).map (endL tk t1.length n)).getD false)] s'):=by
   intro b
   cases b with
   | true=>exact ⟨_,ab1.ak5 _ _ _ _ _ _ _ _ _ _ _ _ _ _ _ _ _ _ _ _ _ _ _ _ _ _ _ _ _ _ _ _ _ _ _ rfl⟩
   | false=>
    refine ⟨s3,?_⟩
    apply ab1.ak5
    unfold ab1.J2b
    rw [am8]
    exact h3
  have key:ab1.L1b RZ.R RZ.D (ab1.J2 RZ) (ab1.J5 RZ) k id nm n m f1 e1 f2 e2 f3 (lvs ls) f4 e4 f3 (lvs ls) ls.length i tk tid tnm tn tm g1 t1 g2 t2 g3 t3 g4 t4 (ms seen) c=ab1.J2 RZ k id nm n m f1 e1 f2 e2 f3 (lvs ls) f4 e4 x.1 (ints x.2) f3 (lvs ls) ls.length i (decide (x.2=[]/\(i:Int)≠n)) tk tid tnm tn tm g1 t1 g2 t2 g3 t3 g4 t4 (ms seen) c:=by
   unfold ab1.L1b
   rw [af3 (by omega)]
   simp only [cond_true,aU2 hx,aP6,aC_v,show ∀m l K,aL 1 (V.list m 1 l) K=K m l from fun m l K=>rfl,aN_v,am8]
   cases hxx:x.2 with
   | nil=>
    simp only [List.length_nil]
    by_cases hn:(i:Int)=n
    ·rw [show ((i:Int) !=n)=false by simp [hn],decide_eq_false (by simp [hn])];rfl
    ·rw [show ((i:Int) !=n)=true by simp [hn],decide_eq_true ⟨trivial,hn⟩];rfl
   | cons y r=>
    rw [show ((((y::r).length:Nat):Int)==z0)=false from beq_eq_false_iff_ne.2 (by show ¬(((y::r).length:Nat):Int)=0;simp;omega),decide_eq_false (by simp)]
    rfl
  obtain ⟨s',hs⟩:=J2 (decide (x.2=[]/\(i:Int)≠n))
  refine ⟨s',?_⟩
  apply ab1.ak4
  rw [key,hs,am5 hx]
  simp only [ouL]
  by_cases hc:x.2=[]/\(i:Int)≠n
  ·rw [decide_eq_true hc,if_pos hc];rfl
  ·rw [decide_eq_false hc,if_neg hc,Option.map_bind];rfl
end
def labB (tk:Int)(tn nn:Nat)(n:Int)(ls:List (Bool×List Int)):Bool:=(decide (1<=tk/\tk<=5)||tk==9)&&decide (ls.length=nn)&&decide (-1<=n)&&decide (n<nn)&&((ouL (fitB tk tn) n ls 0 []).map (endL tk tn n)).getD false
section
variable {k:Int} {id nm:ByteArray} {n m:Int} {f1 f2 f3 f4:Bool} {ns:List ByteArray} {ls:List (Bool×List Int)} {e4 kv:List V}
variable {tk:Int} {tid tnm:ByteArray} {tn tm:Int} {g1 g2 g3 g4:Bool} {tns:List ByteArray} {t2 t3 t4:List V}
theorem aL_v (k:Nat)(m:Bool)(l:List V)(K:Bool->List V->R):aL k (V.list m k l) K=K m l:=by
 show (if k=k then _ else _)=_
 rw [if_pos rfl]
theorem lab_J0 (hls:ls.length<4611686018427387904/\∀l∈ls,l.2.length<4611686018427387904)(ho:aa0 t2=true/\aa0 t3=true/\aa0 t4=true):∀b,∃s',ab1.J0 RZ k id nm n m f1 (aa3 ns) f2 kv f3 (lvs ls) f4 e4 b tk tid tnm tn tm g1 (aa3 tns) g2 t2 g3 t3 g4 t4=some (.ret [.bool (!b&&((ouL (fitB tk tns.length) n ls 0 []).map (endL tk tns.length n)).getD false)] s'):=by
 intro b
 cases b with
 | true=>exact ⟨_,ab1.ad0 _ _ _ _ _ _ _ _ _ _ _ _ _ _ _ _ _ _ _ _ _ _ _ _ _ _ _ rfl⟩
 | false=>
  obtain ⟨s1,h1⟩:=lab_out (k:=k) (id:=id) (nm:=nm) (n:=n) (m:=m) (f1:=f1) (e1:=aa3 ns) (f2:=f2) (e2:=kv) (f3:=f3) (f4:=f4) (e4:=e4) (tk:=tk) (tid:=tid) (tnm:=tnm) (tn:=tn) (tm:=tm) (g1:=g1) (t1:=aa3 tns) (g2:=g2) (t2:=t2) (g3:=g3) (t3:=t3) (g4:=g4) (t4:=t4) hls ⟨ad4 _,ho⟩ ls.length 0 (by omega) [] 0
  refine ⟨s1,?_⟩
  apply ab1.ad0
  unfold ab1.J0b
  rw [aq7]
  rw [ae8,List.drop_zero] at h1
  exact h1
theorem lab_key {kr:List V}(hkv:kv=V.agg [.int .i64 tk,.str tid,.str tnm,.int .i64 tn,.int .i64 tm,.list g1 1 (aa3 tns),.list g2 9 t2,.list g3 1 t3,.list g4 3 t4]::kr):ab1.b RZ.R RZ.D (ab1.J0 RZ) k id nm n m f1 (aa3 ns) f2 kv f3 (lvs ls) f4 e4=ab1.J0 RZ k id nm n m f1 (aa3 ns) f2 kv f3 (lvs ls) f4 e4 (!((decide (1<=tk/\tk<=5)||tk==9)&&decide (ls.length=ns.length)&&decide (-1<=n)&&decide (n<ns.length))) tk tid tnm tn tm g1 (aa3 tns) g2 t2 g3 t3 g4 t4:=by
 unfold ab1.b
 have hi:∀K,idxK kv z0 K=K (V.agg [.int .i64 tk,.str tid,.str tnm,.int .i64 tn,.int .i64 tm,.list g1 1 (aa3 tns),.list g2 9 t2,.list g3 1 t3,.list g4 3 t4]):=fun K=>as5 (i:=0) (by rw [hkv];rfl) K
 rw [hi]
 simp -implicitDefEqProofs only [ah7,aC_v,aI_v,aS_v,aN_v,aL_v,vI,kind_tags_is,cP_B,aB_v,aq7,ae8]
 cases (decide (1<=tk/\tk<=5)||tk==9) with
 | false=>simp -implicitDefEqProofs only [Bool.not_false,cond_true,Bool.false_and]
 | true=>
  simp -implicitDefEqProofs only [Bool.not_true,cond_false,Bool.true_and]
  by_cases hl:ls.length=ns.length
  ·rw [show ((ls.length:Int) !=(ns.length:Int))=false by simp [hl],decide_eq_true hl]
   by_cases h1:n< -1
   ·rw [decide_eq_true h1,decide_eq_false (show ¬-1<=n by omega)]
    simp -implicitDefEqProofs only [cond_true,cond_false,Bool.and_false,Bool.false_and,Bool.not_false]
   ·rw [decide_eq_false h1,decide_eq_true (show -1<=n by omega)]
    simp -implicitDefEqProofs only [cond_false,Bool.true_and]
    rw [show decide (n>=(ns.length:Int))= !decide (n<(ns.length:Int)) by by_cases h:n<(ns.length:Int)<;>simp [h]<;>omega]
  ·rw [show ((ls.length:Int) !=(ns.length:Int))=true by simp;omega,decide_eq_false hl]
   simp -implicitDefEqProofs only [cond_true,Bool.false_and,Bool.not_false]
theorem labels_is {kr:List V}(hls:ls.length<4611686018427387904/\∀l∈ls,l.2.length<4611686018427387904)(ho:aa0 t2=true/\aa0 t3=true/\aa0 t4=true)(hkv:kv=V.agg [.int .i64 tk,.str tid,.str tnm,.int .i64 tn,.int .i64 tm,.list g1 1 (aa3 tns),.list g2 9 t2,.list g3 1 t3,.list g4 3 t4]::kr):
  ∃s',RZ.R aR4 [.agg [.int .i64 k,.str id,.str nm,.int .i64 n,.int .i64 m,.list f1 1 (aa3 ns),.list f2 9 kv,.list f3 1 (lvs ls),.list f4 3 e4]] []=some (.ret [.bool (labB tk tns.length ns.length n ls)] s'):=by
 obtain ⟨s',h2⟩:=lab_J0 (k:=k) (id:=id) (nm:=nm) (n:=n) (m:=m) (f1:=f1) (ns:=ns) (f2:=f2) (kv:=kv) (f3:=f3) (f4:=f4) (e4:=e4) (tk:=tk) (tid:=tid) (tnm:=tnm) (tn:=tn) (tm:=tm) (g1:=g1) (tns:=tns) (g2:=g2) (t2:=t2) (g3:=g3) (t3:=t3) (g4:=g4) (t4:=t4) hls ho (!((decide (1<=tk/\tk<=5)||tk==9)&&decide (ls.length=ns.length)&&decide (-1<=n)&&decide (n<ns.length)))
 refine ⟨s',?_⟩
 apply ab1.b_of
 rw [lab_key hkv,h2]
 unfold labB
 rw [Bool.not_not]
end
end Go.Proofs.YtflhfchgdpbhcaaGreat.E
set_option maxRecDepth 100000
namespace Go.Proofs.YtflhfchgdpbhcaaGreat.E
open Go
def flat (ls:List (Bool×List Int)):List Int:=ls.flatMap (·.2)
theorem bj8 {ls:List (Bool×List Int)}{i:Nat}{x:Bool×List Int}(h:ls[i]? =some x):flat (ls.take (i+1))=flat (ls.take i)++x.2:=by
 unfold flat
 rw [ah5 h,List.flatMap_append]
 simp
theorem bj7 (ls:List (Bool×List Int))(i:Nat):(flat (ls.take i)).length<=(flat ls).length:=by
 have:flat ls=flat (ls.take i)++flat (ls.drop i):=by
  unfold flat
  rw [←List.flatMap_append,List.take_append_drop]
 rw [this,List.length_append];omega
theorem ints_app (a b:List Int):ints a++ints b=ints (a++b):=by unfold ints;rw [List.map_append]
theorem bz0 {f3:Bool}{ls:List (Bool×List Int)}(hls:ls.length<4611686018427387904)(hf:(flat ls).length<=1000000):∀(k i:Nat),i+k=ls.length->∀mm,∃m',ap2.L0 RZ mm (ints (flat (ls.take i))) f3 (lvs ls) ls.length i=some (.ret [.list m' 1 (ints (flat ls))] [])
 | 0,i,h,mm=>by
  obtain rfl:i=ls.length:=by omega
  refine ⟨mm,?_⟩
  apply ap2.ag6
  unfold ap2.L0b
  rw [ad9,List.take_length]
  rfl
 | k+1,i,h,mm=>by
  obtain ⟨x,hx⟩:=getL (l:=ls) (i:=i) (by omega)
  obtain ⟨m',ih⟩:=bz0 (f3:=f3) hls hf k (i+1) (by omega) (mm||!(ints x.2).isEmpty)
  refine ⟨m',?_⟩
  apply ap2.ag6
  unfold ap2.L0b
  rw [af3 (by omega)]
  have h1:=bj7 ls (i+1)
  rw [bj8 hx,List.length_append] at h1
  simp -implicitDefEqProofs only [cond_true,aU2 hx,aP6,aC_v,aL_v,aN_v,w6_1 (show i<9223372036854775807 by omega)]
  rw [apK_ok (by rw [am8,am8];omega) (by rw [am8,am8];omega),ints_app,←bj8 hx]
  exact ih
theorem bb4 {k:Int}{id nm:ByteArray}{n m:Int}{f1 f2 f3 f4:Bool}{e1 e2 e4:List V}{ls:List (Bool×List Int)}(hls:ls.length<4611686018427387904)(hf:(flat ls).length<=1000000):
  ∃m',RZ.R aA5 [.agg [.int .i64 k,.str id,.str nm,.int .i64 n,.int .i64 m,.list f1 1 e1,.list f2 9 e2,.list f3 1 (lvs ls),.list f4 3 e4]] []=some (.ret [.list m' 1 (ints (flat ls))] []):=by
 obtain ⟨m',h⟩:=bz0 (f3:=f3) hls hf ls.length 0 (by omega) false
 refine ⟨m',?_⟩
 apply ap2.b_of
 unfold ap2.b
 rw [aq7]
 rw [List.take_zero] at h
 exact h
def empF (n:Int)(ls:List (Bool×List Int)):Nat->Nat->Bool
 | 0,_=>true
 | k+1,i=>(match ls[i]? with | some x=>!decide (x.2=[]/\(i:Int)≠n) | none=>false)&&empF n ls k (i+1)
def labF (fit:Int->Bool)(l:List Int):Nat->Nat->Bool
 | 0,_=>true
 | k+1,i=>(match l[i]? with | some x=>fit x&&!hasI x (l.take i) | none=>false)&&labF fit l k (i+1)
theorem inL_spec (fit:Int->Bool):∀(xs seen:List Int),inL fit xs seen=if labF fit (seen++xs) xs.length seen.length=true then some (seen++xs) else none
 | [],seen=>by simp [inL,labF]
 | x::r,seen=>by
  have hx:(seen++x::r)[seen.length]? =some x:=by simp
  have ht:(seen++x::r).take seen.length=seen:=by simp
  simp only [inL,List.length_cons,labF,hx,ht,inL_spec fit r (seen++[x]),List.append_assoc,List.singleton_append,List.length_append,List.length_nil,Nat.zero_add]
  cases hasI x seen<;>cases fit x<;>simp
theorem labF_add (fit:Int->Bool)(l:List Int):∀a b i,labF fit l (a+b) i=(labF fit l a i&&labF fit l b (i+a))
 | 0,b,i=>by simp [labF]
 | a+1,b,i=>by
  rw [show a+1+b=(a+b)+1 by omega]
  simp only [labF,labF_add fit l a b (i+1),Bool.and_assoc]
  rw [show i+1+a=i+(a+1) by omega]
theorem labF_pre (fit:Int->Bool)(l r:List Int):∀k i,i+k<=l.length->labF fit (l++r) k i=labF fit l k i
 | 0,i,h=>rfl
 | k+1,i,h=>by
  simp only [labF,labF_pre fit l r k (i+1) (by omega)]
  rw [List.getElem?_append_left (by omega),List.take_append_of_le_length (by omega)]
theorem ouL_spec (fit:Int->Bool)(n:Int)(ls:List (Bool×List Int)):∀(k i:Nat),i+k=ls.length->ouL fit n (ls.drop i) i (flat (ls.take i))=if (empF n ls k i&&labF fit (flat ls) ((flat ls).length-(flat (ls.take i)).length) (flat (ls.take i)).length)=true then some (flat ls) else none
 | 0,i,h=>by
  obtain rfl:i=ls.length:=by omega
  rw [List.drop_length,List.take_length]
  simp [ouL,empF,labF]
 | k+1,i,h=>by
  obtain ⟨x,hx⟩:=getL (l:=ls) (i:=i) (by omega)
  rw [am5 hx]
  have ih:=ouL_spec fit n ls k (i+1) (by omega)
  simp only [ouL,empF,hx]
  have e1:flat (ls.take (i+1))=flat (ls.take i)++x.2:=bj8 hx
  have hle:=bj7 ls (i+1)
  obtain ⟨r,hr⟩:∃r,flat ls=flat (ls.take (i+1))++r:=⟨flat (ls.drop (i+1)),by unfold flat;rw [←List.flatMap_append,List.take_append_drop]⟩
  by_cases hc:x.2=[]/\(i:Int)≠n
  ·rw [if_pos hc,decide_eq_true hc];simp
  ·rw [if_neg hc,decide_eq_false hc,inL_spec,←e1]
   have e2:labF fit (flat ls) ((flat ls).length-(flat (ls.take i)).length) (flat (ls.take i)).length=(labF fit (flat (ls.take (i+1))) x.2.length (flat (ls.take i)).length&&labF fit (flat ls) ((flat ls).length-(flat (ls.take (i+1))).length) (flat (ls.take (i+1))).length):=by
    have hl:(flat (ls.take (i+1))).length=(flat (ls.take i)).length+x.2.length:=by rw [e1,List.length_append]
    rw [show (flat ls).length-(flat (ls.take i)).length=x.2.length+((flat ls).length-(flat (ls.take (i+1))).length) by omega,labF_add,hl]
    congr 1
    rw [hr,labF_pre _ _ _ _ _ (by omega)]
   rw [e2]
   cases labF fit (flat (ls.take (i+1))) x.2.length (flat (ls.take i)).length with
   | false=>simp
   | true=>simp only [if_true,Option.bind_some,ih,Bool.not_false,Bool.true_and]
end Go.Proofs.YtflhfchgdpbhcaaGreat.E
set_option maxRecDepth 100000
namespace Go.Proofs.YtflhfchgdpbhcaaGreat.E
open Go
section
variable {k:Int} {id nm:ByteArray} {n m:Int} {f1 f2 f3 f4:Bool} {ns:List ByteArray} {e1 e2 e4 kv kr:List V} {ls:List (Bool×List Int)}
variable {tk:Int} {tid tnm:ByteArray} {tn tm:Int} {g1 g2 g3 g4:Bool} {tns:List ByteArray} {t2 t3 t4:List V}
theorem tagged_is :RZ.R aN4 [.agg [.int .i64 k,.str id,.str nm,.int .i64 n,.int .i64 m,.list f1 1 e1,.list f2 9 e2,.list f3 1 kv,.list f4 3 e4]] []=some (.ret [.bool (decide (1<=k/\k<=5)||k==9)] []):=by
 apply ae9.b_of
 unfold ae9.b
 have J0:∀b,ae9.J0 RZ b=some (.ret [.bool b] []):=fun b=>ae9.ad0 b (by cases b<;>rfl)
 have J1:∀b,ae9.J1 RZ b=some (.ret [.bool b] []):=fun b=>ae9.an7 b (by unfold ae9.J1b;exact J0 b)
 have J2:∀b,ae9.J2 RZ b=some (.ret [.bool b] []):=fun b=>ae9.ak5 b (by unfold ae9.J2b;exact J1 b)
 have J3:∀b,ae9.J3 RZ b=some (.ret [.bool b] []):=fun b=>ae9.aH9 b (by unfold ae9.J3b;exact J2 b)
 have J4:∀b,ae9.J4 RZ b=some (.ret [.bool b] []):=fun b=>ae9.aS3 b (by unfold ae9.J4b;exact J3 b)
 simp -implicitDefEqProofs only [J0,J1,J2,J3,J4,ac4]
 refine ac3 ?_
 rw [Bool.eq_iff_iff]
 simp only [bc4]
 by_cases h1:k=1
 ·subst h1;decide
 ·by_cases h2:k=2
  ·subst h2;decide
  ·by_cases h3:k=3
   ·subst h3;decide
   ·by_cases h4:k=4
    ·subst h4;decide
    ·by_cases h5:k=5
     ·subst h5;decide
     ·rw [if_neg (show ¬k=z1 from h1),if_neg h2,if_neg h3,if_neg h4,if_neg h5,decide_eq_false (by omega)];rfl
def bn7 (x:Int)(l:List Int):Nat->Nat->Bool
 | 0,_=>false
 | k+1,j=>(match l[j]? with | some y=>decide (x=y) | none=>false)||bn7 x l k (j+1)
theorem fromI_eq (s:Int)(l:List Int):∀k j,j+k<=l.length->hasI s (l.take (j+k))=(hasI s (l.take j)||bn7 s l k j)
 | 0,j,h=>by simp [bn7]
 | k+1,j,h=>by
  obtain ⟨x,hx⟩:=getL (l:=l) (i:=j) (by omega)
  have:=fromI_eq s l k (j+1) (by omega)
  rw [show j+(k+1)=j+1+k by omega,this,ah5 hx,hasI_app]
  simp only [bn7,hx,hasI,Bool.or_false,Bool.or_assoc]
theorem fromI_0 (s:Int)(l:List Int):bn7 s l l.length 0=hasI s l:=by
 have:=fromI_eq s l l.length 0 (by omega)
 rw [Nat.zero_add,List.take_length,List.take_zero] at this
 rw [this];rfl
theorem un_in {mm m2:Bool}{l:List Int}{i:Nat}{x:Int}(hl:l.length<=1000000)(hi:i<l.length){o:Out}(hn:ab3.L3 RZ k id nm n m f1 e1 f2 kv f3 (lvs ls) f4 e4 mm (ints l) m2 (ints l) l.length ((i+1:Nat):Int)=some o)(p:List Int)(hp:p.length<1000001)(m3:Bool):∀(k' j:Nat),j+k'=p.length ->
  ab3.L4 RZ k id nm n m f1 e1 f2 kv f3 (lvs ls) f4 e4 mm (ints l) x m2 (ints l) l.length i m3 (ints p) p.length j=(if bn7 x p k' j then some (.ret [.bool false] []) else some o)
 | 0,j,h=>by
  obtain rfl:j=p.length:=by omega
  have:ab3.L4 RZ k id nm n m f1 e1 f2 kv f3 (lvs ls) f4 e4 mm (ints l) x m2 (ints l) l.length i m3 (ints p) p.length p.length=some o:=by
   apply ab3.aE4
   unfold ab3.L4b
   rw [ad9]
   simp only [cond_false]
   rw [w6_1 (by omega)]
   exact hn
  rw [this];rfl
 | k'+1,j,h=>by
  have ih:=un_in (x:=x) hl hi hn p hp m3 k' (j+1) (by omega)
  obtain ⟨y,hy⟩:=getL (l:=p) (i:=j) (by omega)
  by_cases e:x=y
  ·have:ab3.L4 RZ k id nm n m f1 e1 f2 kv f3 (lvs ls) f4 e4 mm (ints l) x m2 (ints l) l.length i m3 (ints p) p.length j=some (.ret [.bool false] []):=by
    apply ab3.aE4
    unfold ab3.L4b
    rw [af3 (by omega)]
    simp -implicitDefEqProofs only [cond_true,ints_at hy,bs1,aC_v,aI_v,aN_v,show (x==y)=true from beq_iff_eq.2 e]
    rfl
   rw [this]
   simp only [bn7,hy,decide_eq_true e,Bool.true_or,if_true]
  ·have:∀o',ab3.L4 RZ k id nm n m f1 e1 f2 kv f3 (lvs ls) f4 e4 mm (ints l) x m2 (ints l) l.length i m3 (ints p) p.length ((j+1:Nat):Int)=some o'->ab3.L4 RZ k id nm n m f1 e1 f2 kv f3 (lvs ls) f4 e4 mm (ints l) x m2 (ints l) l.length i m3 (ints p) p.length j=some o':=by
    intro o' h'
    apply ab3.aE4
    unfold ab3.L4b
    rw [af3 (by omega)]
    simp -implicitDefEqProofs only [cond_true,ints_at hy,bs1,aC_v,aI_v,aN_v,show (x==y)=false from beq_eq_false_iff_ne.2 e,cond_false]
    rw [w6_1 (by omega)]
    exact h'
   simp only [bn7,hy,decide_eq_false e,Bool.false_or]
   split at ih
   ·rename_i hf;rw [if_pos hf];exact this _ ih
   ·rename_i hf;rw [if_neg hf];exact this _ ih
def aZ3 (tk:Int)(tn:Nat)(n:Int)(c:Nat):Bool:=bif (decide (tk=1/\c=2)||decide (tk=9/\c=tn)) then n==-1 else true
abbrev tagV (tk:Int)(tid tnm:ByteArray)(tn tm:Int)(g1:Bool)(tns:List ByteArray)(g2:Bool)(t2:List V)(g3:Bool)(t3:List V)(g4:Bool)(t4:List V):V:=V.agg [.int .i64 tk,.str tid,.str tnm,.int .i64 tn,.int .i64 tm,.list g1 1 (aa3 tns),.list g2 9 t2,.list g3 1 t3,.list g4 3 t4]
theorem take_ints (l:List Int)(i:Nat):((ints l).take ((i:Int)).toNat).drop (z0:Int).toNat=ints (l.take i):=by
 unfold ints
 rw [←List.map_take]
 rfl
theorem un_out {mm m2:Bool}{l:List Int}(hl:l.length<=1000000)(hkv:kv=tagV tk tid tnm tn tm g1 tns g2 t2 g3 t3 g4 t4::kr)(ho:aa0 t2=true/\aa0 t3=true/\aa0 t4=true):∀(k' i:Nat),i+k'=l.length ->
  ab3.L3 RZ k id nm n m f1 e1 f2 kv f3 (lvs ls) f4 e4 mm (ints l) m2 (ints l) l.length i=some (.ret [.bool (labF (fitB tk tns.length) l k' i&&aZ3 tk tns.length n l.length)] [])
 | 0,i,h=>by
  obtain rfl:i=l.length:=by omega
  have hi:∀K,idxK kv z0 K=K (tagV tk tid tnm tn tm g1 tns g2 t2 g3 t3 g4 t4):=fun K=>as5 (i:=0) (by rw [hkv];rfl) K
  have J6:∀b,ab3.J6 RZ b=some (.ret [.bool b] []):=fun b=>ab3.aV8 b rfl
  have J5:∀b,ab3.J5 RZ k id nm n m f1 e1 f2 kv f3 (lvs ls) f4 e4 b=some (.ret [.bool (bif b then n==-1 else true)] []):=by
   intro b
   apply ab3.aM6
   unfold ab3.J5b
   cases b<;>simp -implicitDefEqProofs only [Bool.not_true,Bool.not_false,cond_true,cond_false,J6]
  apply ab3.aT4
  unfold ab3.L3b
  rw [ad9]
  simp -implicitDefEqProofs only [cond_false,hi,tagV,ah7,aC_v,aI_v,aS_v,aN_v,aL_v,J5,ac4,labF,Bool.true_and,am8,ae8]
  refine ac3 ?_
  unfold aZ3
  rw [show ((l.length:Int)==(2:Int))=decide (l.length=2) by rw [Bool.eq_iff_iff,beq_iff_eq,decide_eq_true_eq];omega,show ((l.length:Int)==(tns.length:Int))=decide (l.length=tns.length) by rw [Bool.eq_iff_iff,beq_iff_eq,decide_eq_true_eq];omega]
  simp only [bc4]
  by_cases h1:tk=1
  ·rw [if_pos (show tk=z1 from h1)]
   subst h1
   simp only [true_and,show ¬((1:Int)=9) by decide,false_and,decide_false,Bool.or_false,if_false]
   cases decide (l.length=2)<;>rfl
  ·rw [if_neg (show ¬tk=z1 from h1)]
   by_cases h9:tk=9
   ·subst h9
    simp only [if_true,show ¬((9:Int)=1) by decide,false_and,decide_false,Bool.false_or,true_and]
   ·simp only [h1,h9,if_false,false_and,decide_false,Bool.or_self,cond_false]
 | k'+1,i,h=>by
  obtain ⟨x,hx⟩:=getL (l:=l) (i:=i) (by omega)
  have ih:=un_out (mm:=mm) (m2:=m2) hl hkv ho k' (i+1) (by omega)
  have hin:=un_in (x:=x) hl (show i<l.length by omega) ih (l.take i) (by rw [List.length_take];omega) mm i 0 (by rw [List.length_take];omega)
  have hi:∀K,idxK kv z0 K=K (tagV tk tid tnm tn tm g1 tns g2 t2 g3 t3 g4 t4):=fun K=>as5 (i:=0) (by rw [hkv];rfl) K
  have hno:aa0 [V.agg [.int .i64 tk,.str tid,.str tnm,.int .i64 tn,.int .i64 tm,.list g1 1 (aa3 tns),.list g2 9 t2,.list g3 1 t3,.list g4 3 t4],.int .i64 x]=true:=by simp [aa0,ad1,ho,ad4]
  have hck:(decide (0<=z0)&&(decide (z0<=(i:Int))&&decide ((i:Int)<=((ints l).length:Int))))=true:=by
   rw [am8]
   simp only [Bool.and_eq_true,decide_eq_true_eq]
   exact ⟨Int.le_refl _,by show (0:Int)<=i;omega,by omega⟩
  apply ab3.aT4
  unfold ab3.L3b
  rw [af3 (by omega)]
  simp -implicitDefEqProofs only [cond_true,ints_at hx,bs1,hi,tagV,ah7,aC_v,aI_v,aS_v,aN_v,aL_v,vI,hno,ck,ref03_fits_is,cP_B,aB_v,ae8,hck,take_ints,labF,hx]
  cases hfx:fitB tk tns.length x with
  | false=>rfl
  | true=>
   simp -implicitDefEqProofs only [Bool.not_true,cond_false,Bool.true_and]
   rw [am8]
   refine hin.trans ?_
   have:(l.take i).length=i:=by rw [List.length_take];omega
   have e:=fromI_0 x (l.take i)
   rw [this] at e
   rw [e]
   cases hasI x (l.take i)<;>simp
end
end Go.Proofs.YtflhfchgdpbhcaaGreat.E
set_option maxRecDepth 100000
namespace Go.Proofs.YtflhfchgdpbhcaaGreat.E
open Go
section
variable {k:Int} {id nm:ByteArray} {n m:Int} {f1 f2 f3 f4:Bool} {ns:List ByteArray} {e1 e2 e4 kv kr:List V} {ls:List (Bool×List Int)}
variable {tk:Int} {tid tnm:ByteArray} {tn tm:Int} {g1 g2 g3 g4:Bool} {tns:List ByteArray} {t2 t3 t4:List V}
theorem un_emp (hls:ls.length<4611686018427387904)(hf:(flat ls).length<=1000000)(hkv:kv=tagV tk tid tnm tn tm g1 tns g2 t2 g3 t3 g4 t4::kr)(ho:aa0 t2=true/\aa0 t3=true/\aa0 t4=true)(hno:aa0 e1=true/\aa0 kv=true/\aa0 e4=true):∀(k' i:Nat),i+k'=ls.length ->
  ab3.L1 RZ k id nm n m f1 e1 f2 kv f3 (lvs ls) f4 e4 f3 (lvs ls) ls.length i=some (.ret [.bool (empF n ls k' i&&(labF (fitB tk tns.length) (flat ls) (flat ls).length 0&&aZ3 tk tns.length n (flat ls).length))] [])
 | 0,i,h=>by
  obtain rfl:i=ls.length:=by omega
  obtain ⟨m',hl⟩:=bb4 (k:=k) (id:=id) (nm:=nm) (n:=n) (m:=m) (f1:=f1) (e1:=e1) (f2:=f2) (e2:=kv) (f3:=f3) (f4:=f4) (e4:=e4) hls hf
  have h3:=un_out (k:=k) (id:=id) (nm:=nm) (n:=n) (m:=m) (f1:=f1) (e1:=e1) (f2:=f2) (f3:=f3) (f4:=f4) (e4:=e4) (ls:=ls) (mm:=m') (m2:=m') hf hkv ho (flat ls).length 0 (by omega)
  have hn:aa0 [V.agg [.int .i64 k,.str id,.str nm,.int .i64 n,.int .i64 m,.list f1 1 e1,.list f2 9 kv,.list f3 1 (lvs ls),.list f4 3 e4]]=true:=by simp [aa0,ad1,hno,ap3]
  apply ab3.ak4
  unfold ab3.L1b
  rw [ad9]
  simp -implicitDefEqProofs only [cond_false,hn,ck,cond_true]
  rw [cP_v hl (by simp [ad1,at4])]
  simp -implicitDefEqProofs only [aL_v,am8,empF,Bool.true_and]
  exact h3
 | k'+1,i,h=>by
  obtain ⟨x,hx⟩:=getL (l:=ls) (i:=i) (by omega)
  have ih:=un_emp hls hf hkv ho hno k' (i+1) (by omega)
  have J2:∀b,ab3.J2 RZ k id nm n m f1 e1 f2 kv f3 (lvs ls) f4 e4 f3 (lvs ls) ls.length i b=some (.ret [.bool (!b&&(empF n ls k' (i+1)&&(labF (fitB tk tns.length) (flat ls) (flat ls).length 0&&aZ3 tk tns.length n (flat ls).length)))] []):=by
   intro b
   apply ab3.ak5
   unfold ab3.J2b
   cases b with
   | true=>rfl
   | false=>rw [w6_1 (show i<9223372036854775807 by omega)];exact ih
  apply ab3.ak4
  unfold ab3.L1b
  rw [af3 (by omega)]
  simp -implicitDefEqProofs only [cond_true,aU2 hx,aP6,aC_v,aL_v,aN_v,am8,J2,ac4,empF,hx]
  refine ac3 ?_
  generalize (labF (fitB tk tns.length) (flat ls) (flat ls).length 0&&aZ3 tk tns.length n (flat ls).length)=y
  generalize empF n ls k' (i+1)=z
  cases hxx:x.2 with
  | nil=>
   by_cases hn:(i:Int)=n
   ·rw [show ((i:Int) !=n)=false by simp [hn],decide_eq_false (by simp [hn])]
    cases y<;>cases z<;>rfl
   ·rw [show ((i:Int) !=n)=true by simp [hn],decide_eq_true ⟨rfl,hn⟩]
    cases y<;>cases z<;>rfl
  | cons y' r=>
   rw [show ((((y'::r).length:Nat):Int)==z0)=false from beq_eq_false_iff_ne.2 (by show ¬(((y'::r).length:Nat):Int)=0;simp;omega),decide_eq_false (by simp)]
   cases y<;>cases z<;>rfl
def unB (tk:Int)(tn kl:Nat)(vt:Bool)(ns:List ByteArray)(n:Int)(ls:List (Bool×List Int)):Bool:=
 decide ((flat ls).length<=256)&&decide (1<=kl)&&decide (kl<=24)&&(decide (1<=tk/\tk<=5)||tk==9)&&vt&&((ns.length:Int)==(kl:Int)&&nmsB ns)&&decide (ls.length=kl)&&decide (-1<=n)&&decide (n<kl)&&(empF n ls ls.length 0&&(labF (fitB tk tn) (flat ls) (flat ls).length 0&&aZ3 tk tn n (flat ls).length))
theorem union_is {vt:Bool}(hls:ls.length<4611686018427387904)(hf:(flat ls).length<=1000000)(hn:lOk ns)(hkl:kr.length<4611686018427387904)(hkv:kv=tagV tk tid tnm tn tm g1 tns g2 t2 g3 t3 g4 t4::kr)(ho:aa0 t2=true/\aa0 t3=true/\aa0 t4=true)(hno:aa0 kv=true/\aa0 e4=true)
  (hv:RZ.R aj2 [tagV tk tid tnm tn tm g1 tns g2 t2 g3 t3 g4 t4,.list false 0 [],.int .i64 1] []=some (.ret [.bool vt] [])):
  RZ.R as6 [.agg [.int .i64 k,.str id,.str nm,.int .i64 n,.int .i64 m,.list f1 1 (aa3 ns),.list f2 9 kv,.list f3 1 (lvs ls),.list f4 3 e4]] []=some (.ret [.bool (unB tk tns.length kr.length vt ns n ls)] []):=by
 have hlen:=hn.1
 have hemp:=un_emp (k:=k) (id:=id) (nm:=nm) (n:=n) (m:=m) (f1:=f1) (e1:=aa3 ns) (f2:=f2) (f3:=f3) (f4:=f4) (e4:=e4) hls hf hkv ho ⟨ad4 _,hno⟩ ls.length 0 (by omega)
 have J0:∀b,ab3.J0 RZ k id nm n m f1 (aa3 ns) f2 kv f3 (lvs ls) f4 e4 b=some (.ret [.bool (!b&&(empF n ls ls.length 0&&(labF (fitB tk tns.length) (flat ls) (flat ls).length 0&&aZ3 tk tns.length n (flat ls).length)))] []):=by
  intro b
  apply ab3.ad0
  unfold ab3.J0b
  cases b with
  | true=>rfl
  | false=>rw [aq7];exact hemp
 obtain ⟨m',hl⟩:=bb4 (k:=k) (id:=id) (nm:=nm) (n:=n) (m:=m) (f1:=f1) (e1:=aa3 ns) (f2:=f2) (e2:=kv) (f3:=f3) (f4:=f4) (e4:=e4) hls hf
 have hn1:aa0 [V.agg [.int .i64 k,.str id,.str nm,.int .i64 n,.int .i64 m,.list f1 1 (aa3 ns),.list f2 9 kv,.list f3 1 (lvs ls),.list f4 3 e4]]=true:=by simp [aa0,ad1,hno,ap3,ad4]
 have hn2:aa0 [V.agg [.int .i64 tk,.str tid,.str tnm,.int .i64 tn,.int .i64 tm,.list g1 1 (aa3 tns),.list g2 9 t2,.list g3 1 t3,.list g4 3 t4]]=true:=by simp [aa0,ad1,ho,ad4]
 have hn3:aa0 [V.agg [.int .i64 tk,.str tid,.str tnm,.int .i64 tn,.int .i64 tm,.list g1 1 (aa3 tns),.list g2 9 t2,.list g3 1 t3,.list g4 3 t4],.list false 0 [],.int .i64 1]=true:=by simp [aa0,ad1,ho,ad4]
 have hn4:aa0 [V.list f1 1 (aa3 ns),.int .i64 (kr.length:Int)]=true:=by simp [aa0,ad1,ad4]
 have hi:∀K,idxK kv z0 K=K (V.agg [.int .i64 tk,.str tid,.str tnm,.int .i64 tn,.int .i64 tm,.list g1 1 (aa3 tns),.list g2 9 t2,.list g3 1 t3,.list g4 3 t4]):=fun K=>as5 (i:=0) (by rw [hkv];rfl) K
 have hw:w6 ((kv.length:Int)-z1)=(kr.length:Int):=by
  rw [hkv,List.length_cons]
  exact bt5 (by omega)
 apply ab3.b_of
 unfold ab3.b
 simp -implicitDefEqProofs only [vI,vL,hn1,ck,cond_true]
 rw [cP_v hl (by simp [ad1,at4])]
 simp -implicitDefEqProofs only [aL_v,am8,hw,hi,ah7,aC_v,aI_v,aS_v,aN_v,hn2,tagged_is,cP_B,aB_v,hn3,cond_true,hv,hn4,aN1 hn,aq7,J0,aq6,ac4]
 refine ac3 ?_
 unfold unB
 generalize (empF n ls ls.length 0&&(labF (fitB tk tns.length) (flat ls) (flat ls).length 0&&aZ3 tk tns.length n (flat ls).length))=X
 rw [show decide (((flat ls).length:Int)>256)= !decide ((flat ls).length<=256) by by_cases h:(flat ls).length<=256<;>simp [h]<;>omega,
  show decide ((kr.length:Int)<1)= !decide (1<=kr.length) by by_cases h:1<=kr.length<;>simp [h]<;>omega,
  show decide ((kr.length:Int)>24)= !decide (kr.length<=24) by by_cases h:kr.length<=24<;>simp [h]<;>omega,
  show ((ls.length:Int) !=(kr.length:Int))= !decide (ls.length=kr.length) by by_cases h:ls.length=kr.length<;>simp [h]<;>omega,
  show decide (n< -1)= !decide (-1<=n) by by_cases h:-1<=n<;>simp [h]<;>omega,
  show decide (n>=(kr.length:Int))= !decide (n<(kr.length:Int)) by by_cases h:n<(kr.length:Int)<;>simp [h]<;>omega]
 generalize decide ((flat ls).length<=256)=a1
 generalize decide (1<=kr.length)=a2
 generalize decide (kr.length<=24)=a3
 generalize (decide (1<=tk/\tk<=5)||tk==9)=a4
 generalize ((ns.length:Int)==(kr.length:Int)&&nmsB ns)=a5
 generalize decide (ls.length=kr.length)=a6
 generalize decide (-1<=n)=a7
 generalize decide (n<(kr.length:Int))=a8
 cases a1<;>cases a2<;>cases a3<;>cases a4<;>cases vt<;>cases a5<;>cases a6<;>cases a7<;>cases a8<;>cases X<;>rfl
end
end Go.Proofs.YtflhfchgdpbhcaaGreat.E
set_option maxRecDepth 100000
namespace Go.Proofs.YtflhfchgdpbhcaaGreat.E
open Go
abbrev ac0 :Nat:=55
def hasF (k:Int):Int:=bif k==7 then 4 else bif k==8 then 12 else bif k==9 then 19 else bif k==10 then 51 else bif k==15 then 51 else bif k==11 then 119 else bif k==12 then 36 else bif k==13 then 36 else bif k==14 then 35 else bif k==16 then 3 else bif k==17 then 179 else bif k==20 then 1 else 0
theorem retI {b:Bool}{x y:Int}{s:List O}:(bif b then (some (.ret [.int .i64 x] s):R) else some (.ret [.int .i64 y] s))=some (.ret [.int .i64 (bif b then x else y)] s):=by cases b<;>rfl
theorem retI_eq {x y:Int}{s:List O}(h:x=y):(some (.ret [.int .i64 x] s):R)=some (.ret [.int .i64 y] s):=by rw [h]
theorem bC6 (k:Int):RZ.R at6 [.int .i64 k] []=some (.ret [.int .i64 (hasF k)] []):=by
 apply au9.b_of
 unfold au9.b
 have J1:∀b,au9.J1 RZ k b=some (.ret [.int .i64 (bif b then 36 else bif k==14 then 35 else bif k==16 then 3 else bif k==17 then 179 else bif k==20 then 1 else 0)] []):=by
  intro b
  apply au9.an7
  unfold au9.J1b
  simp -implicitDefEqProofs only [aq6,retI]
 have J0:∀b,au9.J0 RZ k b=some (.ret [.int .i64 (bif b then 51 else bif k==11 then 119 else bif (bif k==12 then k==12 else k==13) then 36 else bif k==14 then 35 else bif k==16 then 3 else bif k==17 then 179 else bif k==20 then 1 else 0)] []):=by
  intro b
  apply au9.ad0
  unfold au9.J0b
  simp -implicitDefEqProofs only [aq6,J1,retI]
  refine retI_eq ?_
  cases b<;>cases (k==11)<;>cases (k==12)<;>rfl
 simp -implicitDefEqProofs only [aq6,J0,retI]
 refine retI_eq ?_
 unfold hasF
 cases (k==7)<;>cases (k==8)<;>cases (k==9)<;>cases (k==10)<;>cases (k==15)<;>cases (k==11)<;>cases (k==12)<;>cases (k==13)<;>rfl
noncomputable def ZC :Env:=⟨fun f args s=>bif Nat.beq f at6 then (match args,s with | [.int .i64 k],[]=>some (.ret [.int .i64 (hasF k)] []) | _,_=>none) else none,fun _ _ _ _=>none,XC⟩
theorem ZC_ok :ZOk ZC where
 r:=fun f args s o h=>by
  have h2:(bif Nat.beq f at6 then (match args,s with | [.int .i64 k],[]=>some (Out.ret [.int .i64 (hasF k)] []) | _,_=>none) else none)=some o:=h
  clear h
  cases e:Nat.beq f at6 with
  | false=>rw [e] at h2;cases h2
  | true=>
   rw [e] at h2
   simp only [cond_true] at h2
   have e:=Nat.eq_of_beq_eq_true e
   subst e
   split at h2
   ·rw [←h2];exact bC6 _
   ·cases h2
 d:=fun _ _ _ _=>OLe.none _
 x:=fun _ _ _ _=>OLe.rfl' _
def clJP :List Nat:=[0,1,1]
def clJF (b:Bool):St:=⟨mkT 89 [(2,.bool b,.no)],mkA 0 [],0,[],[],[]⟩
noncomputable def clJ (Z:Env)(b:Bool):R:=Z.X ac0 .body clJP (clJF b)
theorem clJ_eq (Z:Env)(b:Bool):ac5 Z ac0 .body clJP (clJF b)=retR [.bool b] []:=by kernel_rfl
theorem clJ_is (b:Bool):clJ RZ b=some (.ret [.bool b] []):=aa9 (by kernel_rfl) (clJ_eq RZ b)
def clX (j:Bool->R)(last:Option Bool):List Bool->R
 | []=>(match last with | some c=>j c | none=>j true)
 | c::r=>bif c then clX j last r else j false
def clB (last:Option Bool):List Bool->Bool
 | []=>(match last with | some c=>c | none=>true)
 | c::r=>c&&clB last r
theorem clX_is (last:Option Bool):∀l,clX (clJ RZ) last l=some (.ret [.bool (clB last l)] [])
 | []=>by
  cases last with
  | none=>exact clJ_is true
  | some c=>exact clJ_is c
 | c::r=>by
  cases c with
  | true=>exact clX_is last r
  | false=>exact clJ_is false
def eS (s:ByteArray):Bool:=s.toList==(⟨#[]⟩:ByteArray).toList
def eL (l:List V):Bool:=(l.length:Int)==0
section
variable (id nm:ByteArray) (n m:Int) (f1 f2 f3 f4:Bool) (e1 e2 e3 e4:List V)
theorem clean_0 :ac7 ZC ac0 [.agg [.int .i64 0,.str id,.str nm,.int .i64 n,.int .i64 m,.list f1 1 e1,.list f2 9 e2,.list f3 1 e3,.list f4 3 e4]] []=clX (clJ ZC) (some (eL e4)) [eS id,eS nm,n==0,m==0,eL e1,eL e2,eL e3]:=by kernel_rfl
theorem clean_1 :ac7 ZC ac0 [.agg [.int .i64 1,.str id,.str nm,.int .i64 n,.int .i64 m,.list f1 1 e1,.list f2 9 e2,.list f3 1 e3,.list f4 3 e4]] []=clX (clJ ZC) (some (eL e4)) [eS id,eS nm,n==0,m==0,eL e1,eL e2,eL e3]:=by kernel_rfl
theorem clean_2 :ac7 ZC ac0 [.agg [.int .i64 2,.str id,.str nm,.int .i64 n,.int .i64 m,.list f1 1 e1,.list f2 9 e2,.list f3 1 e3,.list f4 3 e4]] []=clX (clJ ZC) (some (eL e4)) [eS id,eS nm,n==0,m==0,eL e1,eL e2,eL e3]:=by kernel_rfl
theorem clean_3 :ac7 ZC ac0 [.agg [.int .i64 3,.str id,.str nm,.int .i64 n,.int .i64 m,.list f1 1 e1,.list f2 9 e2,.list f3 1 e3,.list f4 3 e4]] []=clX (clJ ZC) (some (eL e4)) [eS id,eS nm,n==0,m==0,eL e1,eL e2,eL e3]:=by kernel_rfl
theorem clean_4 :ac7 ZC ac0 [.agg [.int .i64 4,.str id,.str nm,.int .i64 n,.int .i64 m,.list f1 1 e1,.list f2 9 e2,.list f3 1 e3,.list f4 3 e4]] []=clX (clJ ZC) (some (eL e4)) [eS id,eS nm,n==0,m==0,eL e1,eL e2,eL e3]:=by kernel_rfl
theorem clean_5 :ac7 ZC ac0 [.agg [.int .i64 5,.str id,.str nm,.int .i64 n,.int .i64 m,.list f1 1 e1,.list f2 9 e2,.list f3 1 e3,.list f4 3 e4]] []=clX (clJ ZC) (some (eL e4)) [eS id,eS nm,n==0,m==0,eL e1,eL e2,eL e3]:=by kernel_rfl
theorem clean_6 :ac7 ZC ac0 [.agg [.int .i64 6,.str id,.str nm,.int .i64 n,.int .i64 m,.list f1 1 e1,.list f2 9 e2,.list f3 1 e3,.list f4 3 e4]] []=clX (clJ ZC) (some (eL e4)) [eS id,eS nm,n==0,m==0,eL e1,eL e2,eL e3]:=by kernel_rfl
theorem clean_7 :ac7 ZC ac0 [.agg [.int .i64 7,.str id,.str nm,.int .i64 n,.int .i64 m,.list f1 1 e1,.list f2 9 e2,.list f3 1 e3,.list f4 3 e4]] []=clX (clJ ZC) (some (eL e4)) [eS id,eS nm,m==0,eL e1,eL e2,eL e3]:=by kernel_rfl
theorem clean_8 :ac7 ZC ac0 [.agg [.int .i64 8,.str id,.str nm,.int .i64 n,.int .i64 m,.list f1 1 e1,.list f2 9 e2,.list f3 1 e3,.list f4 3 e4]] []=clX (clJ ZC) (some (eL e4)) [eS id,eS nm,eL e1,eL e2,eL e3]:=by kernel_rfl
theorem clean_9 :ac7 ZC ac0 [.agg [.int .i64 9,.str id,.str nm,.int .i64 n,.int .i64 m,.list f1 1 e1,.list f2 9 e2,.list f3 1 e3,.list f4 3 e4]] []=clX (clJ ZC) (some (eL e4)) [n==0,m==0,eL e2,eL e3]:=by kernel_rfl
theorem clean_10 :ac7 ZC ac0 [.agg [.int .i64 10,.str id,.str nm,.int .i64 n,.int .i64 m,.list f1 1 e1,.list f2 9 e2,.list f3 1 e3,.list f4 3 e4]] []=clX (clJ ZC) (some (eL e4)) [n==0,m==0,eL e3]:=by kernel_rfl
theorem clean_11 :ac7 ZC ac0 [.agg [.int .i64 11,.str id,.str nm,.int .i64 n,.int .i64 m,.list f1 1 e1,.list f2 9 e2,.list f3 1 e3,.list f4 3 e4]] []=clX (clJ ZC) (some (eL e4)) [m==0]:=by kernel_rfl
theorem clean_12 :ac7 ZC ac0 [.agg [.int .i64 12,.str id,.str nm,.int .i64 n,.int .i64 m,.list f1 1 e1,.list f2 9 e2,.list f3 1 e3,.list f4 3 e4]] []=clX (clJ ZC) (some (eL e4)) [eS id,eS nm,m==0,eL e1,eL e3]:=by kernel_rfl
theorem clean_13 :ac7 ZC ac0 [.agg [.int .i64 13,.str id,.str nm,.int .i64 n,.int .i64 m,.list f1 1 e1,.list f2 9 e2,.list f3 1 e3,.list f4 3 e4]] []=clX (clJ ZC) (some (eL e4)) [eS id,eS nm,m==0,eL e1,eL e3]:=by kernel_rfl
theorem clean_14 :ac7 ZC ac0 [.agg [.int .i64 14,.str id,.str nm,.int .i64 n,.int .i64 m,.list f1 1 e1,.list f2 9 e2,.list f3 1 e3,.list f4 3 e4]] []=clX (clJ ZC) (some (eL e4)) [n==0,m==0,eL e1,eL e3]:=by kernel_rfl
theorem clean_15 :ac7 ZC ac0 [.agg [.int .i64 15,.str id,.str nm,.int .i64 n,.int .i64 m,.list f1 1 e1,.list f2 9 e2,.list f3 1 e3,.list f4 3 e4]] []=clX (clJ ZC) (some (eL e4)) [n==0,m==0,eL e3]:=by kernel_rfl
theorem clean_16 :ac7 ZC ac0 [.agg [.int .i64 16,.str id,.str nm,.int .i64 n,.int .i64 m,.list f1 1 e1,.list f2 9 e2,.list f3 1 e3,.list f4 3 e4]] []=clX (clJ ZC) (some (eL e4)) [n==0,m==0,eL e1,eL e2,eL e3]:=by kernel_rfl
theorem clean_17 :ac7 ZC ac0 [.agg [.int .i64 17,.str id,.str nm,.int .i64 n,.int .i64 m,.list f1 1 e1,.list f2 9 e2,.list f3 1 e3,.list f4 3 e4]] []=clX (clJ ZC) none [n==0,m==0,eL e3]:=by kernel_rfl
theorem clean_18 :ac7 ZC ac0 [.agg [.int .i64 18,.str id,.str nm,.int .i64 n,.int .i64 m,.list f1 1 e1,.list f2 9 e2,.list f3 1 e3,.list f4 3 e4]] []=clX (clJ ZC) (some (eL e4)) [eS id,eS nm,n==0,m==0,eL e1,eL e2,eL e3]:=by kernel_rfl
theorem clean_19 :ac7 ZC ac0 [.agg [.int .i64 19,.str id,.str nm,.int .i64 n,.int .i64 m,.list f1 1 e1,.list f2 9 e2,.list f3 1 e3,.list f4 3 e4]] []=clX (clJ ZC) (some (eL e4)) [eS id,eS nm,n==0,m==0,eL e1,eL e2,eL e3]:=by kernel_rfl
theorem clean_20 :ac7 ZC ac0 [.agg [.int .i64 20,.str id,.str nm,.int .i64 n,.int .i64 m,.list f1 1 e1,.list f2 9 e2,.list f3 1 e3,.list f4 3 e4]] []=clX (clJ ZC) (some (eL e4)) [eS nm,n==0,m==0,eL e1,eL e2,eL e3]:=by kernel_rfl
end
end Go.Proofs.YtflhfchgdpbhcaaGreat.E
set_option maxRecDepth 100000
namespace Go.Proofs.YtflhfchgdpbhcaaGreat.E
open Go
abbrev Ar :=ByteArray×Int×Bool
def av (a:Ar):V:=.agg [.str a.1,.int .i64 a.2.1,.bool a.2.2]
def avs (l:List Ar):List V:=l.map av
theorem bE9 (l:List Ar):(avs l).length=l.length:=List.length_map _
def acs (l:List Ar):List V:=(avs l).flatMap V.cells
theorem acs_app (a b:List Ar):acs (a++b)=acs a++acs b:=by unfold acs avs;rw [List.map_append,List.flatMap_append]
theorem acs_cons (a:Ar)(r:List Ar):acs (a::r)=.str a.1::.int .i64 a.2.1::.bool a.2.2::acs r:=rfl
theorem aB1 (l:List Ar):(acs l).length=l.length*3:=by
 induction l with
 | nil=>rfl
 | cons a r ih=>rw [acs_cons,List.length_cons,List.length_cons,List.length_cons,ih,List.length_cons];omega
theorem aT2 :∀l:List Ar,chunks 3 l.length (acs l)=avs l
 | []=>rfl
 | a::r=>by
  show (bif (3==1) then _ else V.agg ((acs (a::r)).take 3))::chunks 3 r.length ((acs (a::r)).drop 3)=_
  rw [show (acs (a::r)).drop 3=acs r from rfl,aT2 r]
  rfl
theorem bs8 :∀l:List Ar,(acs l).map (fun c=>(c,nilB c))=(acs l).map fun c=>(c,false)
 | []=>rfl
 | a::r=>by
  show (_,false)::(_,false)::(_,false)::(acs r).map (fun c=>(c,nilB c))=(_,false)::(_,false)::(_,false)::(acs r).map fun c=>(c,false)
  rw [bs8 r]
theorem set_self {α:Type}{l:List α}{i:Nat}{x:α}(h:l[i]? =some x):l.set i x=l:=by
 apply List.ext_getElem?
 intro j
 rw [List.getElem?_set]
 split
 ·rename_i e;subst e;have:=(List.getElem?_eq_some_iff.1 h).1;rw [if_pos this,h]
 ·rfl
def RelE (s:List O)(v:V)(A:List Ar):Prop:=∃id,v=.slo id 0 3 A.length A.length/\s[id]? =some (.box ((acs A).map fun c=>(c,false)))
theorem apE {s:List O}{v x:V}{A B:List Ar}(h:RelE s v A)(hx:srcS (inS s) 3 x=some (avs B))(hb:A.length+B.length<=1000000):∃v' s',apS 3 32 s (v,.no) x=some (v',s')/\RelE s' v' (A++B):=by
 obtain ⟨id,rfl,hs⟩:=h
 unfold apS
 rw [hx]
 simp only [Option.bind_some,hs,bE9,List.length_map,aB1]
 cases B with
 | nil=>
  refine ⟨.slo id 0 3 A.length A.length,s,?_,id,?_,?_⟩
  ·simp only [show (3==3)=true from rfl,ck,cond_true,List.length_nil,Nat.add_zero,Nat.zero_add,Nat.ble_eq_true_of_le (Nat.le_refl _),Bool.and_true]
   rw [show ag0 ((acs A).map fun c=>(c,false)) (A.length*3) (((avs []).flatMap V.cells).map fun c=>(c,nilB c))=(acs A).map fun c=>(c,false) by
    show List.take _ _++[]++List.drop _ _=_
    rw [List.append_nil]
    exact List.take_append_drop _ _]
   rw [set_self hs]
  ·rw [List.append_nil]
  ·rw [List.append_nil];exact hs
 | cons b r=>
  refine ⟨.slo s.length 0 3 (A.length+(b::r).length) (A.length+(b::r).length),s.set id .gone++[.box (((chunks 3 A.length (((acs A).map fun c=>(c,false)).map (·.1))++avs (b::r)).flatMap V.cells).map fun c=>(c,nilB c))],?_,s.length,?_,?_⟩
  ·rw [show Nat.ble (A.length+(b::r).length) A.length=false by
    cases e:Nat.ble (A.length+(b::r).length) A.length with
    | false=>rfl
    | true=>rw [Nat.ble_eq] at e;simp at e;omega]
   simp only [show (3==3)=true from rfl,ck,cond_true,Bool.false_and,cond_false,beq_self_eq_true,Bool.true_and,Nat.ble_eq_true_of_le (Nat.le_refl _)]
   rw [show Nat.blt 0 (b::r).length=true by simp [Nat.blt_eq],Nat.ble_eq_true_of_le (show (A.length+(b::r).length)*32<=140737488355328 by omega),Nat.ble_eq_true_of_le (show A.length+(b::r).length<=140737488355328 by omega)]
   rfl
  ·rw [List.length_append]
  ·have hm:((acs A).map fun c=>(c,false)).map (·.1)=acs A:=by rw [List.map_map];exact List.map_id _
   have:(chunks 3 A.length (((acs A).map fun c=>(c,false)).map (·.1))++avs (b::r)).flatMap V.cells=acs (A++(b::r)):=by
    rw [hm,aT2]
    unfold acs avs
    rw [List.map_append]
   rw [this,bs8]
   rw [List.getElem?_append_right (by simp)]
   simp
def insA (A:List Ar)(k:Int)(id:ByteArray):List Ar:=bif k==12 then (A++[(bif (w6 (((BitVec.ofInt IntKind.i64.bits (hasF k) &&& BitVec.ofInt IntKind.i64.bits z1).toNat:Int))) !=z0 then id else ⟨#[]⟩,k,false)]).map (fun a=>(a.1,a.2.1,true)) else A++[(bif (w6 (((BitVec.ofInt IntKind.i64.bits (hasF k) &&& BitVec.ofInt IntKind.i64.bits z1).toNat:Int))) !=z0 then id else ⟨#[]⟩,k,false)]
theorem setE {s:List O}{v:V}{A:List Ar}{i:Nat}{a:Ar}(h:RelE s v A)(ha:A[i]? =some a):∃id s',ixV 3 v i=some (.obj id (0+i*3))/\(∀K,wrO s id (0+i*3+2) [(V.bool true,false)] K=K s')/\RelE s' v (A.set i (a.1,a.2.1,true)):=by
 obtain ⟨id,rfl,hs⟩:=h
 have hi:=(List.getElem?_eq_some_iff.1 ha).1
 have hid:=(List.getElem?_eq_some_iff.1 hs).1
 refine ⟨id,s.set id (.box ((acs (A.set i (a.1,a.2.1,true))).map fun c=>(c,false))),?_,fun K=>?_,id,?_,?_⟩
 ·show (if 3=3/\0<=(i:Int)/\(i:Int)<A.length then some (V.obj id (0+((i:Int)).toNat*3)) else none)=_
  rw [if_pos ⟨rfl,by omega,by omega⟩];rfl
 ·unfold wrO
  rw [hs]
  simp only [List.length_map,aB1,List.length_cons,List.length_nil]
  rw [Nat.ble_eq_true_of_le (show 0+i*3+2+(0+1)<=A.length*3 by omega)]
  simp only [cond_true]
  congr 3
  have key:∀(A:List Ar) (i:Nat),A[i]? =some a->ag0 ((acs A).map fun c=>(c,false)) (i*3+2) [(V.bool true,false)]=(acs (A.set i (a.1,a.2.1,true))).map fun c=>(c,false):=by
   intro A
   induction A with
   | nil=>intro i h;simp at h
   | cons x r ih=>
    intro i h
    cases i with
    | zero=>
     simp at h
     subst h
     rfl
    | succ i=>
     have:=ih i (by simpa using h)
     have e:(i+1)*3+2=(i*3+2)+1+1+1:=by omega
     rw [e]
     show _::_::_::ag0 ((acs r).map fun c=>(c,false)) (i*3+2) [(V.bool true,false)]=_
     rw [this]
     rfl
  rw [show 0+i*3+2=i*3+2 by omega]
  exact key A i ha
 ·rw [List.length_set]
 ·rw [List.getElem?_set];simp [hid]
section
variable {k:Int} {id nm:ByteArray} {n m:Int} {f1 f2 f3 f4:Bool} {e1 e2 e3 e4:List V}
theorem ins_end {s:List O}{v:V}{A:List Ar}(h:RelE s v A):∃s',ae6.J2 RZ v s=some (.ret [.list true 3 (avs A)] s'):=by
 obtain ⟨id,rfl,hs⟩:=h
 refine ⟨s.set id .gone,?_⟩
 apply ae6.ak5
 unfold ae6.J2b frzV
 simp only [hs,Nat.zero_add,List.length_map,aB1]
 rw [Nat.ble_eq_true_of_le (Nat.le_refl _)]
 rw [show (List.all ((acs A).map fun c=>(c,false)) fun p=>!p.2)=true by rw [List.all_map];simp]
 simp only [show Nat.blt 0 3=true from rfl,Bool.and_true,ck,cond_true,Option.bind_some,List.drop_zero]
 rw [show ((acs A).map fun c=>(c,false)).map (·.1)=acs A by rw [List.map_map];exact List.map_id _,aT2]
 rfl
def seqF (A:List Ar)(i:Nat):List Ar:=(A.take i).map (fun a=>(a.1,a.2.1,true))++A.drop i
theorem seqF_at {A:List Ar}{i:Nat}{a:Ar}(h:A[i]? =some a):(seqF A i)[i]? =some a/\(seqF A i).set i (a.1,a.2.1,true)=seqF A (i+1):=by
 have hi:=(List.getElem?_eq_some_iff.1 h).1
 unfold seqF
 have hl:((A.take i).map fun a=>(a.1,a.2.1,true)).length=i:=by simp;omega
 constructor
 ·rw [List.getElem?_append_right (by omega),hl,Nat.sub_self,List.getElem?_drop];simpa using h
 ·rw [List.set_append,hl,if_neg (by omega),Nat.sub_self,am5 h,ah5 h,List.map_append,List.append_assoc]
  rfl
theorem ins_loop {A:List Ar}(hb:A.length<=1000000):∀(k' i:Nat),i+k'=A.length->∀s v,RelE s v (seqF A i)->∃s',ae6.L1 RZ v A.length i s=some (.ret [.list true 3 (avs (A.map fun a=>(a.1,a.2.1,true)))] s')
 | 0,i,h,s,v,hr=>by
  obtain rfl:i=A.length:=by omega
  have:seqF A A.length=A.map fun a=>(a.1,a.2.1,true):=by unfold seqF;simp
  rw [this] at hr
  obtain ⟨s',hs⟩:=ins_end hr
  refine ⟨s',?_⟩
  apply ae6.ak4
  unfold ae6.L1b
  rw [ad9]
  exact hs
 | k'+1,i,h,s,v,hr=>by
  obtain ⟨a,ha⟩:=getL (l:=A) (i:=i) (by omega)
  obtain ⟨q1,q2⟩:=seqF_at ha
  obtain ⟨id,s1,h1,h2,h3⟩:=setE hr q1
  rw [q2] at h3
  obtain ⟨s',hs⟩:=ins_loop hb k' (i+1) (by omega) s1 v h3
  refine ⟨s',?_⟩
  apply ae6.ak4
  unfold ae6.L1b
  rw [af3 (by omega)]
  simp -implicitDefEqProofs only [cond_true,h1,Option.bind_some,show ∀i o,bn5 (V.obj i o)=true from fun _ _=>rfl,ck,show ∀i o,fldV 2 (V.obj i o)=V.obj i (o+2) from fun _ _=>rfl,show ∀i o K,aO (V.obj i o) K=K i o from fun _ _ _=>rfl,vB,h2,w6_1 (show i<9223372036854775807 by omega)]
  exact hs
theorem Inside_is {A:List Ar}{x:V}(hb:A.length<=900000)(hx:∀s,srcS (inS s) 3 x=some (avs A)):∃s',RZ.R aN5 [x,.agg [.int .i64 k,.str id,.str nm,.int .i64 n,.int .i64 m,.list f1 1 e1,.list f2 9 e2,.list f3 1 e3,.list f4 3 e4]] []=some (.ret [.list true 3 (avs (insA A k id))] s'):=by
 obtain ⟨v1,s1,a1,a2⟩:=apE (s:=[O.box []]) (v:=.slo 0 0 3 0 0) (A:=[]) (B:=A) ⟨0,rfl,rfl⟩ (hx _) (by simp;omega)
 rw [List.nil_append] at a2
 have J0:∀w:ByteArray,∃s',ae6.J0 RZ k id nm n m f1 e1 f2 e2 f3 e3 f4 e4 v1 w k s1=some (.ret [.list true 3 (avs (bif k==12 then (A++[(w,k,false)]).map (fun a=>(a.1,a.2.1,true)) else A++[(w,k,false)]))] s'):=by
  intro w
  obtain ⟨v2,s2,b1,b2⟩:=apE (x:=vL true 3 [vA [vS w,vI k,vB false]]) (B:=[(w,k,false)]) a2 rfl (by simp;omega)
  obtain ⟨id2,hv2,hs2⟩:=b2
  have hnl:nlB 0 [(v2,.no)]=true:=by rw [hv2];rfl
  by_cases hk:k=12
  ·have hl:=ins_loop (A:=A++[(w,k,false)]) (by simp;omega) (A++[(w,k,false)]).length 0 (by omega) s2 v2 ⟨id2,by rw [hv2];simp [seqF],by simpa [seqF] using hs2⟩
   obtain ⟨s',hs⟩:=hl
   refine ⟨s',?_⟩
   apply ae6.ad0
   unfold ae6.J0b
   rw [b1]
   simp -implicitDefEqProofs only [Option.bind_some,hnl,ck,cond_true,show (k==12)=true from beq_iff_eq.2 hk]
   rw [show lnV v2=some (((A++[(w,k,false)]).length:Nat):Int) by rw [hv2];rfl]
   exact hs
  ·obtain ⟨s',hs⟩:=ins_end (s:=s2) (v:=v2) (A:=A++[(w,k,false)]) ⟨id2,hv2,hs2⟩
   refine ⟨s',?_⟩
   apply ae6.ad0
   unfold ae6.J0b
   rw [b1]
   simp -implicitDefEqProofs only [Option.bind_some,hnl,ck,cond_true,show (k==12)=false from beq_eq_false_iff_ne.2 hk,cond_false]
   exact hs
 cases hc:((w6 (((BitVec.ofInt IntKind.i64.bits (hasF k) &&& BitVec.ofInt IntKind.i64.bits z1).toNat:Int))) !=z0) with
 | true=>
  obtain ⟨s',hs⟩:=J0 id
  refine ⟨s',?_⟩
  apply ae6.b_of
  unfold ae6.b
  rw [a1]
  simp -implicitDefEqProofs only [Option.bind_some,vI,bC6,cP_I,aI_v,hc,cond_true]
  rw [hs];unfold insA;rw [hc];rfl
 | false=>
  obtain ⟨s',hs⟩:=J0 ⟨#[]⟩
  refine ⟨s',?_⟩
  apply ae6.b_of
  unfold ae6.b
  rw [a1]
  simp -implicitDefEqProofs only [Option.bind_some,vI,bC6,cP_I,aI_v,hc,cond_false]
  rw [hs];unfold insA;rw [hc];rfl
end
end Go.Proofs.YtflhfchgdpbhcaaGreat.E
