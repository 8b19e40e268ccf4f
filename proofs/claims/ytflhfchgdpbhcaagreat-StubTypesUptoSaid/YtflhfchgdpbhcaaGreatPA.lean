/- It is proved of functions that read names, labels and values what they answer at plain data. No condition beyond the lemmas' own. -/
import Derived.Test.YtflhfchgdpbhcaaGreatLF0
import Derived.Test.YtflhfchgdpbhcaaGreatLF1
import Derived.Test.YtflhfchgdpbhcaaGreatLF2
import Derived.Test.YtflhfchgdpbhcaaGreatLF3
import Derived.Test.YtflhfchgdpbhcaaGreatLF4
import Derived.Test.YtflhfchgdpbhcaaGreatLF5
import Derived.Test.YtflhfchgdpbhcaaGreatLF6
import Derived.Test.YtflhfchgdpbhcaaGreatLF7
import Derived.Test.YtflhfchgdpbhcaaGreatLF8
import Derived.Test.YtflhfchgdpbhcaaGreatLF9
import Derived.Test.YtflhfchgdpbhcaaGreatLF10
import Derived.Test.YtflhfchgdpbhcaaGreatLF11
import Derived.IntWalk
import Derived.Laws.Strings
set_option maxRecDepth 100000
namespace Go.Proofs.YtflhfchgdpbhcaaGreat.E
open Go
theorem cP_B (b:Bool)(s:List O)(K KP:V->R):cP (some (.ret [.bool b] s)) K KP=K (.bool b):=rfl
theorem cP_I (k:IntKind)(n:Int)(s:List O)(K KP:V->R):cP (some (.ret [.int k n] s)) K KP=K (.int k n):=rfl
theorem aB_v (b:Bool)(K:Bool->R):aB (.bool b) K=K b:=rfl
theorem aI_v (n:Int)(K:Int->R):aI (.int .i64 n) K=K n:=rfl
theorem aS_v (n:ByteArray)(K:ByteArray->R):aS (.str n) K=K n:=rfl
theorem aC_v (v:V)(r:List V)(K:V->List V->R):aC (v::r) K=K v r:=rfl
theorem aN_v (K:R):aN [] K=K:=rfl
theorem aA_v (l:List V)(K:List V->R):aA (.agg l) K=K l:=rfl
theorem aq6 (vs:List V)(s:List O):retR vs s=some (.ret vs s):=rfl
theorem ac4 {b x y:Bool}{s:List O}:(bif b then (some (.ret [.bool x] s):R) else some (.ret [.bool y] s))=some (.ret [.bool (bif b then x else y)] s):=by cases b<;>rfl
theorem ac3 {x y:Bool}{s:List O}(h:x=y):(some (.ret [.bool x] s):R)=some (.ret [.bool y] s):=by rw [h]
theorem av8 {p:Prop}[Decidable p]{x y:Bool}:((bif decide p then x else y)=true)↔(p/\x=true)∨(¬p/\y=true):=by
 by_cases h:p<;>simp [h]
theorem av6 {a b:Int}{x y:Bool}:((bif a !=b then x else y)=true)↔(a≠b/\x=true)∨(a=b/\y=true):=by
 by_cases h:a=b<;>simp [h]
theorem av7 {a b:Int}{x y:Bool}:((bif a==b then x else y)=true)↔(a=b/\x=true)∨(a≠b/\y=true):=by
 by_cases h:a=b<;>simp [h]
theorem aR9 {s:ByteArray}{i:Nat}{c:UInt8}(h:s[i]? =some c)(K:Int->R):aT3 s (i:Int) K=K c.toNat:=by
 unfold aT3
 rw [if_pos (by omega),show ((i:Int)).toNat=i from rfl,h]
theorem byteK_0 {s:ByteArray}{c:UInt8}(h:s[0]? =some c)(K:Int->R):aT3 s 0 K=K c.toNat:=aR9 (i:=0) h K
theorem w6_1 {i:Nat}(h:i<9223372036854775807):w6 ((i:Int)+1)=((i+1:Nat):Int):=by
 show IntKind.i64.wrap ((i:Int)+1)=_
 rw [IntWalk.i64_in _ (by omega)];omega
theorem bv1 {s:ByteArray}{i:Nat}(h:i<s.size):∃c,s[i]? =some c:=⟨s[i],by simp [h]⟩
def letB (c:Int):Bool:=(decide (97<=c)&&decide (c<=122))||(decide (65<=c)&&decide (c<=90))
def digB (c:Int):Bool:=decide (48<=c)&&decide (c<=57)
def idB (c:Int):Bool:=decide (32<c)&&decide (c<127)&&c !=93&&c !=44&&c !=125&&c !=59&&c !=62
theorem kind_letter_is (c:Int):RZ.R aR3 [.int .u8 c] []=some (.ret [.bool (letB c)] []):=by
 apply aC7.b_of
 unfold aC7.b letB
 have J:∀b,aC7.J0 RZ b=some (.ret [.bool b] []):=fun b=>aC7.ad0 b rfl
 simp only [J,ac4]
 refine ac3 ?_
 rw [Bool.eq_iff_iff];((try simp only [av8,Bool.or_eq_true,Bool.and_eq_true,decide_eq_true_eq,Bool.false_eq_true,and_false,or_false,and_true]);try omega)
theorem aY0 (c:Int):RZ.R aA4 [.int .u8 c] []=some (.ret [.bool (letB c)] []):=by
 apply ay3.b_of
 unfold ay3.b letB
 have J:∀b,ay3.J0 RZ b=some (.ret [.bool b] []):=fun b=>ay3.ad0 b rfl
 simp only [J,ac4]
 refine ac3 ?_
 rw [Bool.eq_iff_iff];((try simp only [av8,Bool.or_eq_true,Bool.and_eq_true,decide_eq_true_eq,Bool.false_eq_true,and_false,or_false,and_true]);try omega)
theorem kind_digit_is (c:Int):RZ.R aU9 [.int .u8 c] []=some (.ret [.bool (digB c)] []):=by
 apply aK8.b_of
 unfold aK8.b digB
 have J:∀b,aK8.J0 RZ b=some (.ret [.bool b] []):=fun b=>aK8.ad0 b rfl
 simp only [J,ac4]
 refine ac3 ?_
 rw [Bool.eq_iff_iff];((try simp only [av8,Bool.and_eq_true,decide_eq_true_eq,Bool.false_eq_true,and_false,or_false]);try omega)
theorem ref03_digit_is (c:Int):RZ.R aQ9 [.int .u8 c] []=some (.ret [.bool (digB c)] []):=by
 apply aC2.b_of
 unfold aC2.b digB
 have J:∀b,aC2.J0 RZ b=some (.ret [.bool b] []):=fun b=>aC2.ad0 b rfl
 simp only [J,ac4]
 refine ac3 ?_
 rw [Bool.eq_iff_iff];((try simp only [av8,Bool.and_eq_true,decide_eq_true_eq,Bool.false_eq_true,and_false,or_false]);try omega)
theorem kind_idByte_is (c:Int):RZ.R aR5 [.int .u8 c] []=some (.ret [.bool (idB c)] []):=by
 apply aC8.b_of
 unfold aC8.b idB
 have J:∀b,aC8.J0 RZ b=some (.ret [.bool b] []):=fun b=>aC8.ad0 b rfl
 simp only [J,ac4]
 refine ac3 ?_
 rw [Bool.eq_iff_iff];((try simp only [av8,av6,Bool.and_eq_true,decide_eq_true_eq,bne_iff_ne,ne_eq,Bool.false_eq_true,and_false,or_false]);try omega)
theorem ref03_mark_is (c:Int):RZ.R aU6 [.int .u8 c] []=some (.ret [.bool (idB c)] []):=by
 apply aK5.b_of
 unfold aK5.b idB
 have J:∀b,aK5.J0 RZ b=some (.ret [.bool b] []):=fun b=>aK5.ad0 b rfl
 simp only [J,ac4]
 refine ac3 ?_
 rw [Bool.eq_iff_iff];((try simp only [av8,av6,Bool.and_eq_true,decide_eq_true_eq,bne_iff_ne,ne_eq,Bool.false_eq_true,and_false,or_false]);try omega)
theorem ref03_inner_is (c:Int):RZ.R aQ8 [.int .u8 c] []=some (.ret [.bool (letB c||digB c||c==95)] []):=by
 apply aC1.b_of
 unfold aC1.b
 have J:∀b,aC1.J0 RZ b=some (.ret [.bool b] []):=fun b=>aC1.ad0 b rfl
 simp only [vU,aY0,ref03_digit_is,cP_B,aB_v,J,ac4]
 cases letB c<;>cases digB c<;>rfl
def okC (z:Bool)(c:Int):Bool:=letB c||(!z&&(c==95||digB c))
def nmF (s:ByteArray):Nat->Nat->Bool
 | 0,_=>true
 | k+1,i=>(match s[i]? with | some c=>okC (i==0) c.toNat | none=>false)&&nmF s k (i+1)
def af2 (s:ByteArray):Bool:=nmF s s.size 0&&decide (1<=s.size)&&decide (s.size<=32)
theorem ba5 {s:ByteArray}(hs:s.size<9223372036854775807):∀(k i:Nat),i+k=s.size->ap4.L0 RZ s s.size i=some (.ret [.bool (nmF s k i&&decide (1<=s.size)&&decide (s.size<=32))] [])
 | 0,i,h=>by
  obtain rfl:i=s.size:=by omega
  apply ap4.ag6
  unfold ap4.L0b
  have J:∀b,ap4.J2 RZ b=some (.ret [.bool b] []):=fun b=>ap4.ak5 b rfl
  rw [show decide ((s.size:Int)<s.size)=false by simp]
  simp only [cond_false,J,nmF,ac4,Bool.true_and]
  refine ac3 ?_
  rw [Bool.eq_iff_iff];((try simp only [av8,Bool.and_eq_true,decide_eq_true_eq,Bool.false_eq_true,and_false,or_false]);try omega)
 | k+1,i,h=>by
  have ih:=ba5 hs k (i+1) (by omega)
  obtain ⟨c,hc⟩:=bv1 (s:=s) (i:=i) (by omega)
  have J1:∀b,ap4.J1 RZ s s.size i b=some (.ret [.bool (!b&&(nmF s k (i+1)&&decide (1<=s.size)&&decide (s.size<=32)))] []):=by
   intro b
   apply ap4.an7
   unfold ap4.J1b
   cases b with
   | true=>rfl
   | false=>rw [w6_1 (by omega)];exact ih
  apply ap4.ag6
  unfold ap4.L0b
  rw [show decide ((i:Int)<s.size)=true by simp;omega]
  simp only [cond_true,aR9 hc,vU,kind_letter_is,kind_digit_is,cP_B,aB_v,J1,nmF,hc,ac4]
  refine ac3 ?_
  rw [show ((i:Int)==z0)=(i==0) from by rw [Bool.eq_iff_iff,beq_iff_eq,beq_iff_eq];show (i:Int)=0↔_;omega]
  rw [show (okC (i==0) ↑c.toNat&&nmF s k (i+1)&&decide (1<=s.size)&&decide (s.size<=32))=(okC (i==0) ↑c.toNat&&(nmF s k (i+1)&&decide (1<=s.size)&&decide (s.size<=32))) by simp only [Bool.and_assoc]]
  unfold okC
  generalize (nmF s k (i+1)&&decide (1<=s.size)&&decide (s.size<=32))=t
  generalize ((c.toNat:Nat):Int)=c
  generalize (c==95)=x
  cases letB c<;>cases digB c<;>cases (i==0)<;>cases x<;>cases t<;>rfl
theorem az3 {s:ByteArray}(hs:s.size<9223372036854775807):RZ.R at7 [.str s] []=some (.ret [.bool (af2 s)] []):=by
 apply ap4.b_of
 exact ba5 hs s.size 0 (by omega)
def inF (s:ByteArray):Nat->Nat->Bool
 | 0,_=>true
 | k+1,i=>(match s[i]? with | some c=>(letB c.toNat||digB c.toNat||(c.toNat:Int)==95) | none=>false)&&inF s k (i+1)
theorem aY2 {s:ByteArray}(hs:s.size<9223372036854775807):∀(k i:Nat),i+k=s.size->an4.L1 RZ s s.size i=some (.ret [.bool (inF s k i)] [])
 | 0,i,h=>by
  obtain rfl:i=s.size:=by omega
  apply an4.ak4
  unfold an4.L1b
  rw [show decide ((s.size:Int)<s.size)=false by simp]
  rfl
 | k+1,i,h=>by
  have ih:=aY2 hs k (i+1) (by omega)
  obtain ⟨c,hc⟩:=bv1 (s:=s) (i:=i) (by omega)
  apply an4.ak4
  unfold an4.L1b
  rw [show decide ((i:Int)<s.size)=true by simp;omega]
  simp only [cond_true,aR9 hc,vU,ref03_inner_is,cP_B,aB_v,inF,hc,w6_1 (show i<9223372036854775807 by omega),ih,aq6,ac4]
  refine ac3 ?_
  generalize inF s k (i+1)=t
  cases (letB c.toNat||digB c.toNat||(c.toNat:Int)==95)<;>rfl
theorem nmF_inF (s:ByteArray):∀(k i:Nat),0<i->nmF s k i=inF s k i
 | 0,i,h=>rfl
 | k+1,i,h=>by
  simp only [nmF,inF,nmF_inF s k (i+1) (by omega)]
  cases s[i]? with
  | none=>rfl
  | some c=>
   simp only [okC,show (i==0)=false by simp;omega,Bool.not_false,Bool.true_and]
   cases letB c.toNat<;>cases digB c.toNat<;>cases ((c.toNat:Int)==95)<;>rfl
theorem strB (a b:ByteArray):(a.toList==b.toList)=decide (a=b):=by
 rw [Bool.eq_iff_iff,beq_iff_eq,decide_eq_true_eq,ByteArray.toList_eq,ByteArray.toList_eq]
 constructor
 ·intro h
  cases a;cases b
  simp only at h
  congr 1
  exact Array.ext' h
 ·rintro rfl;rfl
theorem eq_empty (s:ByteArray):s=⟨#[]⟩↔s.size=0:=by
 constructor
 ·rintro rfl;rfl
 ·intro h
  cases s
  congr 1
  exact Array.size_eq_zero_iff.1 h
theorem toList_empty (s:ByteArray):(s.toList==(⟨#[]⟩:ByteArray).toList)=(s.size==0):=by
 rw [strB,Bool.eq_iff_iff,decide_eq_true_eq,beq_iff_eq,eq_empty]
theorem aC4 {s:ByteArray}(hs:s.size<9223372036854775807):RZ.R av0 [.str s] []=some (.ret [.bool (af2 s)] []):=by
 apply an4.b_of
 unfold an4.b
 have J:∀b,an4.J0 RZ s b=some (.ret [.bool (!b&&inF s s.size 0)] []):=by
  intro b
  apply an4.ad0
  unfold an4.J0b
  cases b with
  | true=>rfl
  | false=>exact aY2 hs s.size 0 (by omega)
 rw [toList_empty]
 by_cases h0:s.size=0
 ·simp only [h0,beq_self_eq_true,cond_true,J]
  refine ac3 ?_
  simp [af2,h0]
 ·obtain ⟨c,hc⟩:=bv1 (s:=s) (i:=0) (by omega)
  have hk:s.size=(s.size-1)+1:=by omega
  simp only [show (s.size==0)=false from beq_eq_false_iff_ne.2 h0,cond_false,J,show z0=((0:Nat):Int) from rfl,aR9 hc,vU,aY0,cP_B,aB_v,ac4]
  refine ac3 ?_
  have e1:nmF s s.size 0=(letB c.toNat&&inF s (s.size-1) 1):=by
   rw [show nmF s s.size 0=nmF s ((s.size-1)+1) 0 by rw [←hk]]
   simp only [nmF,hc,okC,beq_self_eq_true,Bool.not_true,Bool.false_and,Bool.or_false]
   rw [nmF_inF s _ _ (by omega)]
  have e2:inF s s.size 0=((letB c.toNat||digB c.toNat||(c.toNat:Int)==95)&&inF s (s.size-1) 1):=by
   rw [show inF s s.size 0=inF s ((s.size-1)+1) 0 by rw [←hk]]
   simp only [inF,hc]
  unfold af2
  rw [e1,e2]
  have:decide (1<=s.size)=true:=by simp;omega
  rw [this,show decide ((s.size:Int)>32)= !decide (s.size<=32) by by_cases h:s.size<=32<;>simp [h]<;>omega]
  generalize inF s (s.size-1) 1=t
  cases letB c.toNat<;>cases t<;>cases decide (s.size<=32)<;>cases (digB c.toNat)<;>cases ((c.toNat:Int)==95)<;>rfl
def idF (s:ByteArray):Nat->Nat->Bool
 | 0,_=>true
 | k+1,i=>(match s[i]? with | some c=>idB c.toNat | none=>false)&&idF s k (i+1)
def iddB (s:ByteArray):Bool:=idF s s.size 0&&decide (1<=s.size)&&decide (s.size<=32)
theorem bj1 {s:ByteArray}(hs:s.size<9223372036854775807):∀(k i:Nat),i+k=s.size->aH0.L0 RZ s s.size i=some (.ret [.bool (idF s k i&&decide (1<=s.size)&&decide (s.size<=32))] [])
 | 0,i,h=>by
  obtain rfl:i=s.size:=by omega
  apply aH0.ag6
  unfold aH0.L0b
  have J:∀b,aH0.J1 RZ b=some (.ret [.bool b] []):=fun b=>aH0.an7 b rfl
  rw [show decide ((s.size:Int)<s.size)=false by simp]
  simp only [cond_false,J,idF,ac4,Bool.true_and]
  refine ac3 ?_
  rw [Bool.eq_iff_iff];((try simp only [av8,Bool.and_eq_true,decide_eq_true_eq,Bool.false_eq_true,and_false,or_false]);try omega)
 | k+1,i,h=>by
  have ih:=bj1 hs k (i+1) (by omega)
  obtain ⟨c,hc⟩:=bv1 (s:=s) (i:=i) (by omega)
  apply aH0.ag6
  unfold aH0.L0b
  rw [show decide ((i:Int)<s.size)=true by simp;omega]
  simp only [cond_true,aR9 hc,vU,kind_idByte_is,cP_B,aB_v,idF,hc,w6_1 (show i<9223372036854775807 by omega),ih,aq6,ac4]
  refine ac3 ?_
  cases idB c.toNat<;>simp
theorem bu9 {s:ByteArray}(hs:s.size<9223372036854775807):RZ.R aZ2 [.str s] []=some (.ret [.bool (iddB s)] []):=by
 apply aH0.b_of
 exact bj1 hs s.size 0 (by omega)
theorem bd4 {s:ByteArray}(hs:s.size<9223372036854775807):∀(k i:Nat),i+k=s.size->au1.L1 RZ s s.size i=some (.ret [.bool (idF s k i)] [])
 | 0,i,h=>by
  obtain rfl:i=s.size:=by omega
  apply au1.ak4
  unfold au1.L1b
  rw [show decide ((s.size:Int)<s.size)=false by simp]
  rfl
 | k+1,i,h=>by
  have ih:=bd4 hs k (i+1) (by omega)
  obtain ⟨c,hc⟩:=bv1 (s:=s) (i:=i) (by omega)
  apply au1.ak4
  unfold au1.L1b
  rw [show decide ((i:Int)<s.size)=true by simp;omega]
  simp only [cond_true,aR9 hc,vU,ref03_mark_is,cP_B,aB_v,idF,hc,w6_1 (show i<9223372036854775807 by omega),ih,aq6,ac4]
  refine ac3 ?_
  cases idB c.toNat<;>simp
theorem bm5 {s:ByteArray}(hs:s.size<9223372036854775807):RZ.R aM0 [.str s] []=some (.ret [.bool (iddB s)] []):=by
 apply au1.b_of
 unfold au1.b
 have J:∀b,au1.J0 RZ s b=some (.ret [.bool (!b&&idF s s.size 0)] []):=by
  intro b
  apply au1.ad0
  unfold au1.J0b
  cases b with
  | true=>rfl
  | false=>exact bd4 hs s.size 0 (by omega)
 rw [toList_empty]
 simp only [J,ac4]
 refine ac3 ?_
 unfold iddB
 rw [show decide ((s.size:Int)>32)= !decide (s.size<=32) by by_cases h:s.size<=32<;>simp [h]<;>omega,show (s.size==0)= !decide (1<=s.size) by rw [Bool.eq_iff_iff,beq_iff_eq,Bool.not_eq_true',decide_eq_false_iff_not];omega]
 cases idF s s.size 0<;>cases decide (s.size<=32)<;>cases decide (1<=s.size)<;>rfl
theorem kind_tags_is (c:Int):RZ.R aZ0 [.int .i64 c] []=some (.ret [.bool (decide (1<=c/\c<=5)||c==9)] []):=by
 apply aQ5.b_of
 unfold aQ5.b
 have J:∀b,aQ5.J0 RZ b=some (.ret [.bool b] []):=fun b=>aQ5.ad0 b rfl
 simp only [J,ac4]
 refine ac3 ?_
 rw [Bool.eq_iff_iff];((try simp only [av8,Bool.or_eq_true,decide_eq_true_eq,and_true,beq_iff_eq]);try omega)
end Go.Proofs.YtflhfchgdpbhcaaGreat.E
set_option maxRecDepth 100000
namespace Go.Proofs.YtflhfchgdpbhcaaGreat.E
open Go
def aa3 (l:List ByteArray):List V:=l.map V.str
theorem ae8 (l:List ByteArray):(aa3 l).length=l.length:=List.length_map _
theorem as5 {l:List V}{i:Nat}{v:V}(h:l[i]? =some v)(K:V->R):idxK l (i:Int) K=K v:=by
 unfold idxK
 have hi:i<l.length:=(List.getElem?_eq_some_iff.1 h).1
 rw [if_pos (by omega),show ((i:Int)).toNat=i from rfl,h]
theorem az6 {l:List ByteArray}{i:Nat}{x:ByteArray}(h:l[i]? =some x)(K:V->R):idxK (aa3 l) (i:Int) K=K (.str x):=as5 (by unfold aa3;rw [List.getElem?_map,h];rfl) K
theorem getL {α:Type}{l:List α}{i:Nat}(h:i<l.length):∃c,l[i]? =some c:=⟨l[i],by simp [h]⟩
theorem ad4 :∀l:List ByteArray,aa0 (aa3 l)=true
 | []=>rfl
 | _::r=>ad4 r
theorem af3 {i n:Nat}(h:i<n):decide ((i:Int)<(n:Int))=true:=by simp;omega
theorem ad9 (n:Nat):decide ((n:Int)<(n:Int))=false:=by simp
def idxS (s:ByteArray):List ByteArray->Nat->Option Nat
 | [],_=>none
 | x::r,i=>if s=x then some i else idxS s r (i+1)
theorem am5 {α:Type}{l:List α}{i:Nat}{x:α}(h:l[i]? =some x):l.drop i=x::l.drop (i+1):=by
 have hi:i<l.length:=(List.getElem?_eq_some_iff.1 h).1
 rw [List.drop_eq_getElem_cons hi]
 congr 1
 exact (List.getElem?_eq_some_iff.1 h).2
theorem bw7 {m:Bool}{l:List ByteArray}{s:ByteArray}(hl:l.length<9223372036854775807):∀(k i:Nat),i+k=l.length->ad7.L0 RZ m (aa3 l) s l.length i=some (.ret [.int .i64 (match idxS s (l.drop i) i with | some j=>(j:Int) | none=>-1)] [])
 | 0,i,h=>by
  obtain rfl:i=l.length:=by omega
  apply ad7.ag6
  unfold ad7.L0b
  rw [ad9,List.drop_length]
  rfl
 | k+1,i,h=>by
  have ih:=bw7 (m:=m) (s:=s) hl k (i+1) (by omega)
  obtain ⟨c,hc⟩:=getL (l:=l) (i:=i) (by omega)
  apply ad7.ag6
  unfold ad7.L0b
  rw [af3 (by omega),am5 hc]
  simp only [cond_true,az6 hc,V.cells,aC_v,aS_v,aN_v,strB,w6_1 (show i<9223372036854775807 by omega),ih,idxS]
  by_cases h:s=c
  ·rw [if_pos h,decide_eq_true h];rfl
  ·rw [if_neg h,decide_eq_false h];rfl
def hasS (s:ByteArray):List ByteArray->Bool
 | []=>false
 | x::r=>decide (s=x)||hasS s r
theorem idxS_mem (s:ByteArray):∀(l:List ByteArray) (i:Nat),(idxS s l i).isSome=hasS s l
 | [],i=>rfl
 | x::r,i=>by
  simp only [idxS,hasS]
  by_cases h:s=x
  ·rw [if_pos h,decide_eq_true h];rfl
  ·rw [if_neg h,decide_eq_false h,idxS_mem s r];rfl
theorem Contains_is {m:Bool}{l:List ByteArray}{s:ByteArray}(hl:l.length<9223372036854775807):RZ.R am4 [.list m 1 (aa3 l),.str s] []=some (.ret [.bool (hasS s l)] []):=by
 apply an1.b_of
 unfold an1.b
 have hi:RZ.R an8 [.list m 1 (aa3 l),.str s] []=some (.ret [.int .i64 (match idxS s l 0 with | some j=>(j:Int) | none=>-1)] []):=by
  apply ad7.b_of
  unfold ad7.b
  rw [ae8]
  exact bw7 hl l.length 0 (by omega)
 rw [show aa0 [vL m 1 (aa3 l),vS s]=true by simp [aa0,ad1,ad4]]
 simp only [ck,cond_true,hi,cP_I,aI_v,aq6]
 refine ac3 ?_
 rw [←idxS_mem s l 0]
 cases idxS s l 0 with
 | none=>rfl
 | some j=>simp
def memF (l:List ByteArray):Nat->Nat->Bool
 | 0,_=>true
 | k+1,i=>(match l[i]? with | some s=>af2 s&&!hasS s (l.take i) | none=>false)&&memF l k (i+1)
def nmsB (l:List ByteArray):Bool:=memF l l.length 0
theorem take_cstrs (l:List ByteArray)(i:Nat):((aa3 l).take ((i:Int)).toNat).drop (z0:Int).toNat=aa3 (l.take i):=by
 unfold aa3
 rw [←List.map_take]
 rfl
def sOk (s:ByteArray):Prop:=s.size<4611686018427387904
def lOk (l:List ByteArray):Prop:=l.length<4611686018427387904/\∀s∈l,sOk s
theorem bh4 {m:Bool}{l:List ByteArray}{n least:Int}(hl:lOk l):∀(k i:Nat),i+k=l.length->ag1.L0 RZ m (aa3 l) n least m (aa3 l) l.length i=some (.ret [.bool (memF l k i&&((l.length:Int)==n&&decide (least<=n)&&decide (n<=24)))] [])
 | 0,i,h=>by
  obtain rfl:i=l.length:=by omega
  apply ag1.ag6
  unfold ag1.L0b
  have J:∀b,ag1.J2 RZ b=some (.ret [.bool b] []):=fun b=>ag1.ak5 b rfl
  rw [ad9]
  simp only [cond_false,J,ac4,memF,ae8,Bool.true_and]
  refine ac3 ?_
  rw [Bool.eq_iff_iff];((try simp only [av8,av7,Bool.and_eq_true,decide_eq_true_eq,ne_eq,Bool.false_eq_true,and_false,or_false,beq_iff_eq]);try omega)
 | k+1,i,h=>by
  have ih:=bh4 (m:=m) (n:=n) (least:=least) hl k (i+1) (by omega)
  obtain ⟨c,hc⟩:=getL (l:=l) (i:=i) (by have:=hl.1;omega)
  have hlen:=hl.1
  have J1:∀b,ag1.J1 RZ m (aa3 l) n least m (aa3 l) l.length i b=some (.ret [.bool (!b&&(memF l k (i+1)&&((l.length:Int)==n&&decide (least<=n)&&decide (n<=24))))] []):=by
   intro b
   apply ag1.an7
   unfold ag1.J1b
   cases b with
   | true=>rfl
   | false=>rw [w6_1 (by omega)];exact ih
  have hcs:sOk c:=hl.2 c (List.mem_of_getElem? hc)
  apply ag1.ag6
  unfold ag1.L0b
  rw [af3 (by omega)]
  have hno:aa0 [vL m 1 (aa3 (l.take i)),vS c]=true:=by simp [aa0,ad1,ad4]
  have hck:(decide (0<=z0)&&(decide (z0<=(i:Int))&&decide ((i:Int)<=((aa3 l).length:Int))))=true:=by
   rw [ae8]
   simp only [Bool.and_eq_true,decide_eq_true_eq]
   exact ⟨Int.le_refl _,by show (0:Int)<=i;omega,by omega⟩
  simp only [cond_true,az6 hc,V.cells,aC_v,aS_v,aN_v,vS,az3 (show c.size<9223372036854775807 by unfold sOk at hcs;omega),cP_B,aB_v,J1,hck,ck,take_cstrs,vL,Contains_is (m:=m) (l:=l.take i) (s:=c) (by rw [List.length_take];omega),hno,memF,hc,ac4]
  refine ac3 ?_
  cases af2 c<;>cases hasS c (l.take i)<;>simp
theorem bC1 {m:Bool}{l:List ByteArray}{n least:Int}(hl:lOk l):RZ.R an5 [.list m 1 (aa3 l),.int .i64 n,.int .i64 least] []=some (.ret [.bool (nmsB l&&((l.length:Int)==n&&decide (least<=n)&&decide (n<=24)))] []):=by
 apply ag1.b_of
 unfold ag1.b
 rw [ae8]
 exact bh4 hl l.length 0 (by omega)
end Go.Proofs.YtflhfchgdpbhcaaGreat.E
set_option maxRecDepth 100000
namespace Go.Proofs.YtflhfchgdpbhcaaGreat.E
open Go
def allF (p:ByteArray->Bool)(l:List ByteArray):Nat->Nat->Bool
 | 0,_=>true
 | k+1,i=>(match l[i]? with | some s=>p s | none=>false)&&allF p l k (i+1)
def ndF (l:List ByteArray):Nat->Nat->Bool
 | 0,_=>true
 | k+1,i=>(match l[i]? with | some s=>!hasS s (l.take i) | none=>false)&&ndF l k (i+1)
theorem memF_eq (l:List ByteArray):∀k i,memF l k i=(allF af2 l k i&&ndF l k i)
 | 0,i=>rfl
 | k+1,i=>by
  simp only [memF,allF,ndF,memF_eq l k (i+1)]
  cases l[i]? with
  | none=>rfl
  | some s=>
   simp only
   cases af2 s<;>cases hasS s (l.take i)<;>cases allF af2 l k (i+1)<;>cases ndF l k (i+1)<;>rfl
def bn8 (s:ByteArray)(l:List ByteArray):Nat->Nat->Bool
 | 0,_=>false
 | k+1,j=>(match l[j]? with | some x=>decide (s=x) | none=>false)||bn8 s l k (j+1)
theorem hasS_app (s:ByteArray):∀l r,hasS s (l++r)=(hasS s l||hasS s r)
 | [],r=>rfl
 | x::l,r=>by simp only [List.cons_append,hasS,hasS_app s l r,Bool.or_assoc]
theorem ah5 {α:Type}{l:List α}{i:Nat}{x:α}(h:l[i]? =some x):l.take (i+1)=l.take i++[x]:=by
 rw [List.take_add_one,h];rfl
theorem fromF_eq (s:ByteArray)(l:List ByteArray):∀k j,j+k<=l.length->hasS s (l.take (j+k))=(hasS s (l.take j)||bn8 s l k j)
 | 0,j,h=>by simp [bn8]
 | k+1,j,h=>by
  obtain ⟨x,hx⟩:=getL (l:=l) (i:=j) (by omega)
  have:=fromF_eq s l k (j+1) (by omega)
  rw [show j+(k+1)=j+1+k by omega,this,ah5 hx,hasS_app]
  simp only [bn8,hx,hasS,Bool.or_false,Bool.or_assoc]
theorem fromF_0 (s:ByteArray)(l:List ByteArray){i:Nat}(h:i<=l.length):bn8 s l i 0=hasS s (l.take i):=by
 have:=fromF_eq s l i 0 (by omega)
 rw [Nat.zero_add,List.take_zero] at this
 rw [this];rfl
theorem Twice_in {m:Bool}{l:List ByteArray}{s:ByteArray}{i:Nat}(hl:l.length<4611686018427387904)(hs:l[i]? =some s){o:Out}(hn:ae7.L0 RZ m (aa3 l) l.length ((i+1:Nat):Int)=some o):∀(k j:Nat),j+k=i ->
  ae7.L1 RZ m (aa3 l) i l.length i i j=(if bn8 s l k j then some (.ret [.bool true] []) else some o)
 | 0,j,h=>by
  obtain rfl:j=i:=by omega
  have:ae7.L1 RZ m (aa3 l) j l.length j j j=some o:=by
   apply ae7.ak4
   unfold ae7.L1b
   rw [ad9]
   simp only [cond_false]
   rw [w6_1 (by have:=(List.getElem?_eq_some_iff.1 hs).1;omega)]
   exact hn
  rw [this];rfl
 | k+1,j,h=>by
  have hi:=(List.getElem?_eq_some_iff.1 hs).1
  have ih:=Twice_in hl hs hn k (j+1) (by omega)
  obtain ⟨x,hx⟩:=getL (l:=l) (i:=j) (by omega)
  by_cases e:s=x
  ·have:ae7.L1 RZ m (aa3 l) i l.length i i j=some (.ret [.bool true] []):=by
    apply ae7.ak4
    unfold ae7.L1b
    rw [af3 (by omega)]
    simp only [cond_true,az6 hs,az6 hx,V.cells,aC_v,aS_v,aN_v,strB,decide_eq_true e]
    rfl
   rw [this]
   simp only [bn8,hx,decide_eq_true e,Bool.true_or,if_true]
  ·have:∀o',ae7.L1 RZ m (aa3 l) i l.length i i ((j+1:Nat):Int)=some o'->ae7.L1 RZ m (aa3 l) i l.length i i j=some o':=by
    intro o' h'
    apply ae7.ak4
    unfold ae7.L1b
    rw [af3 (by omega)]
    simp only [cond_true,az6 hs,az6 hx,V.cells,aC_v,aS_v,aN_v,strB,decide_eq_false e,cond_false]
    rw [w6_1 (by omega)]
    exact h'
   simp only [bn8,hx,decide_eq_false e,Bool.false_or]
   split at ih
   ·rename_i hf;rw [if_pos hf];exact this _ ih
   ·rename_i hf;rw [if_neg hf];exact this _ ih
theorem bF5 {m:Bool}{l:List ByteArray}(hl:l.length<4611686018427387904):∀(k i:Nat),i+k=l.length->ae7.L0 RZ m (aa3 l) l.length i=some (.ret [.bool (!ndF l k i)] [])
 | 0,i,h=>by
  obtain rfl:i=l.length:=by omega
  apply ae7.ag6
  unfold ae7.L0b
  rw [ad9]
  rfl
 | k+1,i,h=>by
  have ih:=bF5 (m:=m) hl k (i+1) (by omega)
  obtain ⟨s,hs⟩:=getL (l:=l) (i:=i) (by omega)
  apply ae7.ag6
  unfold ae7.L0b
  rw [af3 (by omega)]
  simp only [cond_true]
  have:=Twice_in hl hs ih i 0 (by omega)
  rw [fromF_0 s l (by omega)] at this
  refine Eq.trans this ?_
  simp only [ndF,hs]
  cases hasS s (l.take i)<;>simp
theorem bf6 {m:Bool}{l:List ByteArray}(hl:l.length<4611686018427387904):RZ.R as7 [.list m 1 (aa3 l)] []=some (.ret [.bool (!ndF l l.length 0)] []):=by
 apply ae7.b_of
 unfold ae7.b
 rw [ae8]
 exact bF5 hl l.length 0 (by omega)
theorem bu6 {m:Bool}{l:List ByteArray}(hl:lOk l):∀(k i:Nat),i+k=l.length->ak6.L1 RZ m (aa3 l) l.length i=some (.ret [.bool (allF af2 l k i)] [])
 | 0,i,h=>by
  obtain rfl:i=l.length:=by omega
  apply ak6.ak4
  unfold ak6.L1b
  rw [ad9]
  rfl
 | k+1,i,h=>by
  have hlen:=hl.1
  have ih:=bu6 (m:=m) hl k (i+1) (by omega)
  obtain ⟨s,hs⟩:=getL (l:=l) (i:=i) (by omega)
  have hss:sOk s:=hl.2 s (List.mem_of_getElem? hs)
  apply ak6.ak4
  unfold ak6.L1b
  rw [af3 (by omega)]
  simp only [cond_true,az6 hs,V.cells,aC_v,aS_v,aN_v,vS,aC4 (show s.size<9223372036854775807 by unfold sOk at hss;omega),cP_B,aB_v,w6_1 (show i<9223372036854775807 by omega),ih,aq6,ac4,allF,hs]
  refine ac3 ?_
  cases af2 s<;>simp
theorem aN1 {m:Bool}{l:List ByteArray}{n:Int}(hl:lOk l):RZ.R aq1 [.list m 1 (aa3 l),.int .i64 n] []=some (.ret [.bool ((l.length:Int)==n&&nmsB l)] []):=by
 apply ak6.b_of
 unfold ak6.b
 have J:∀b,ak6.J0 RZ m (aa3 l) b=some (.ret [.bool (!b&&allF af2 l l.length 0)] []):=by
  intro b
  apply ak6.ad0
  unfold ak6.J0b
  cases b with
  | true=>rfl
  | false=>rw [ae8];exact bu6 hl l.length 0 (by omega)
 have hno:aa0 [V.list m 1 (aa3 l)]=true:=by simp [aa0,ad1,ad4]
 simp only [vL,bf6 hl.1,hno,ck,cond_true,cP_B,aB_v,J,ac4,ae8]
 refine ac3 ?_
 unfold nmsB
 rw [memF_eq]
 rw [Bool.eq_iff_iff]
 by_cases h:(l.length:Int)=n
 ·cases allF af2 l l.length 0<;>cases ndF l l.length 0<;>simp [h]
 ·cases allF af2 l l.length 0<;>cases ndF l l.length 0<;>simp [h]
theorem aP4 {m:Bool}{l:List ByteArray}{n least:Int}(hl:lOk l):RZ.R an5 [.list m 1 (aa3 l),.int .i64 n,.int .i64 least] []=some (.ret [.bool (nmsB l&&((l.length:Int)==n&&decide (least<=n)&&decide (n<=24)))] []):=bC1 hl
end Go.Proofs.YtflhfchgdpbhcaaGreat.E
set_option maxRecDepth 100000
namespace Go.Proofs.YtflhfchgdpbhcaaGreat.E
open Go
theorem bk9 (s:List O)(o:O):(s++[o])[s.length]? =some o:=by simp
theorem set_new (s:List O)(o o':O):(s++[o]).set s.length o'=s++[o']:=by
 rw [List.set_append]
 simp
theorem bx4 {s:List O}{old new:List (V×Bool)}(h:new.length=old.length)(K:List O->R):wrO (s++[O.box old]) s.length 0 new K=K (s++[O.box new]):=by
 unfold wrO
 rw [bk9]
 simp only [Nat.zero_add,h,Nat.ble_eq_true_of_le (Nat.le_refl _),cond_true,set_new]
 congr 3
 simp [ag0,←h]
theorem wrO_new3 (s:List O)(a b c a' b' c':V×Bool)(K:List O->R):wrO (s++[O.box [a,b,c]]) s.length 0 [a',b',c'] K=K (s++[O.box [a',b',c']]):=bx4 (old:=[a,b,c]) (new:=[a',b',c']) rfl K
theorem ah7 (l:List V):V.cells (.agg l)=l:=rfl
theorem aH7 (b:ByteArray):V.cells (.str b)=[.str b]:=rfl
theorem bs1 (k:IntKind)(n:Int):V.cells (.int k n)=[.int k n]:=rfl
theorem aP6 (m:Bool)(k:Nat)(l:List V):V.cells (.list m k l)=[.list m k l]:=rfl
theorem aG5 {s:List O}{cs:List (V×Bool)}{j:Nat}{v:V}{f:Bool}(h:cs[j]? =some (v,f))(K:V->R):rd1 (s++[O.box cs]) s.length j K=K v:=by
 unfold rd1
 rw [bk9]
 simp only [h]
theorem cS_v {v:V}{s:List O}{K KP:V->List O->R}{x:R}(h:x=some (.ret [v] s)):cS x K KP=K v s:=by subst h;rfl
theorem cP_v {v:V}{s:List O}{K KP:V->R}{x:R}(h:x=some (.ret [v] s))(hn:ad1 v=true):cP x K KP=K v:=by
 subst h
 show ck (aa0 [v]) (aP0 1 [v] fun l=>K (one l))=_
 simp only [aa0,hn,Bool.and_true,ck,cond_true]
 rfl
noncomputable def fnB1 (g:Nat):Bool:=HH.ok g&&!HH.pure g&&Nat.beq (nres Tryz.prog g) 1&&(HH.ext g).isNone
theorem bF9 {g:Nat}(hx:fnB1 g=true){a b args:List V}{s s':List O}{v:V}{K KP:V->List O->R}(hr:RZ.R g (a++args++b) s=some (.ret [v] s'))(ha:(a++args++b).all am0=true):aV9 RZ.R (.func (.func g) a b) args s K KP=K v s':=by
 unfold fnB1 at hx
 simp only [Bool.and_eq_true,Bool.not_eq_true'] at hx
 obtain ⟨⟨⟨h1,h2⟩,h3⟩,h4⟩:=hx
 have h3:=Nat.eq_of_beq_eq_true h3
 show aM4 Tryz.prog HH RZ.R (.func (.func g) a b) args s K KP=_
 unfold aM4 aB8
 cases he:HH.ext g with
 | some e=>rw [he] at h4;cases h4
 | none=>
  simp only [ck,show (!(HH.own g).headD false)=true from rfl,cond_true,h1,ha,h2,cond_false,hr,h3]
  rfl
abbrev Pt :=ByteArray×Int×Bool
def pv (p:Pt):V:=.agg [.str p.1,.int .i64 p.2.1,.bool p.2.2]
def cvs (l:List Pt):List V:=l.map pv
theorem ay0 (l:List Pt):(cvs l).length=l.length:=List.length_map _
theorem aN7 {l:List Pt}{i:Nat}{x:Pt}(h:l[i]? =some x)(K:V->R):idxK (cvs l) (i:Int) K=K (pv x):=as5 (by unfold cvs;rw [List.getElem?_map,h];rfl) K
theorem ak3 :∀l:List Pt,aa0 (cvs l)=true
 | []=>rfl
 | _::r=>ak3 r
def cOk (l:List Pt):Prop:=l.length<4611686018427387904/\∀p∈l,sOk p.1
def idxP (s:ByteArray):List Pt->Nat->Option Nat
 | [],_=>none
 | x::r,i=>if x.1=s then some i else idxP s r (i+1)
theorem idxP_mem (s:ByteArray):∀(l:List Pt) (i:Nat),(idxP s l i).isSome=hasS s (l.map (·.1))
 | [],i=>rfl
 | x::r,i=>by
  simp only [idxP,List.map_cons,hasS]
  by_cases h:x.1=s
  ·rw [if_pos h,decide_eq_true h.symm];rfl
  ·rw [if_neg h,decide_eq_false (fun e=>h e.symm),idxP_mem s r];rfl
theorem chain1_is {s:List O}{cs:List (V×Bool)}{a q:ByteArray}{n:Int}{b f:Bool}(h:cs[0]? =some (.str q,f)):RZ.R ak7 [.agg [.str a,.int .i64 n,.bool b],.obj s.length 0] (s++[O.box cs])=some (.ret [.bool (decide (a=q))] (s++[O.box cs])):=by
 apply aU3.b_of
 unfold aU3.b
 rw [aG5 h]
 simp only [aS_v,strB]
 rfl
theorem bq1 {m:Bool}{l:List Pt}{s:List O}{cs:List (V×Bool)}{q:ByteArray}{f:Bool}(hq:cs[0]? =some (.str q,f))(hl:l.length<9223372036854775807):∀(k i:Nat),i+k=l.length ->
  ac6.L0 RZ m (cvs l) (.func (.func ak7) [] [.obj s.length 0]) l.length i (s++[O.box cs])=some (.ret [.int .i64 (match idxP q (l.drop i) i with | some j=>(j:Int) | none=>-1)] (s++[O.box cs]))
 | 0,i,h=>by
  obtain rfl:i=l.length:=by omega
  apply ac6.ag6
  unfold ac6.L0b
  rw [ad9,List.drop_length]
  rfl
 | k+1,i,h=>by
  have ih:=bq1 (m:=m) (s:=s) (cs:=cs) (q:=q) hq hl k (i+1) (by omega)
  obtain ⟨c,hc⟩:=getL (l:=l) (i:=i) (by omega)
  apply ac6.ag6
  unfold ac6.L0b
  rw [af3 (by omega),am5 hc]
  simp only [cond_true,aN7 hc,pv,ah7,aC_v,aS_v,aN_v,aI_v,aB_v]
  rw [bF9 (g:=ak7) (by kernel_rfl) (a:=[]) (b:=[.obj s.length 0]) (args:=[vA [vS c.1,vI c.2.1,vB c.2.2]]) (chain1_is hq) rfl]
  simp only [aB_v,w6_1 (show i<9223372036854775807 by omega),ih,idxP]
  by_cases h:c.1=q
  ·rw [if_pos h,decide_eq_true h];rfl
  ·rw [if_neg h,decide_eq_false h];rfl
theorem PContains_is {m:Bool}{l:List Pt}{s:List O}{cs:List (V×Bool)}{q:ByteArray}{f:Bool}(hq:cs[0]? =some (.str q,f))(hl:l.length<9223372036854775807):
  RZ.R ae0 [.list m 3 (cvs l),.func (.func ak7) [] [.obj s.length 0]] (s++[O.box cs])=some (.ret [.bool (hasS q (l.map (·.1)))] (s++[O.box cs])):=by
 apply aj0.b_of
 unfold aj0.b
 have hi:RZ.R aj6 [.list m 3 (cvs l),.func (.func ak7) [] [.obj s.length 0]] (s++[O.box cs])=some (.ret [.int .i64 (match idxP q l 0 with | some j=>(j:Int) | none=>-1)] (s++[O.box cs])):=by
  apply ac6.b_of
  unfold ac6.b
  rw [ay0]
  exact bq1 hq hl l.length 0 (by omega)
 rw [show ([vL m 3 (cvs l),V.func (.func ak7) [] [.obj s.length 0]]).all am0=true from rfl]
 simp only [ck,cond_true,vL]
 rw [cS_v hi]
 simp only [aI_v,aq6]
 rw [←idxP_mem q l 0]
 cases idxP q l 0 with
 | none=>rfl
 | some j=>simp
def ordB (l:List Pt)(p:Pt):Nat->Bool
 | 0=>true
 | j+1=>(match l[j]? with | some q=>decide (q.2.1<=p.2.1) | none=>false)
def chF (l:List Pt):Nat->Nat->Bool
 | 0,_=>true
 | k+1,i=>(match l[i]? with | some p=>iddB p.1&&decide (0<=p.2.1)&&ordB l p i&&!hasS p.1 ((l.take i).map (·.1)) | none=>false)&&chF l k (i+1)
theorem take_cvs (l:List Pt)(i:Nat):((cvs l).take ((i:Int)).toNat).drop (z0:Int).toNat=cvs (l.take i):=by
 unfold cvs
 rw [←List.map_take]
 rfl
theorem bt5 {i:Nat}(h:i+1<9223372036854775807):w6 (((i+1:Nat):Int)-z1)=(i:Int):=by
 show IntKind.i64.wrap (((i+1:Nat):Int)-1)=_
 rw [IntWalk.i64_in _ (by omega)];omega
section
variable {k:Int} {id nm:ByteArray} {n m:Int} {f1 f2 f3 f4:Bool} {e1 e2 e3:List V} {l:List Pt}
theorem bw1 (hl:cOk l):∀(j i:Nat),i+j=l.length->∀s,∃s',ae2.L1 RZ k id nm n m f1 e1 f2 e2 f3 e3 f4 (cvs l) f4 (cvs l) l.length i s=some (.ret [.bool (chF l j i)] s')
 | 0,i,h,s=>by
  obtain rfl:i=l.length:=by omega
  refine ⟨s,?_⟩
  apply ae2.ak4
  unfold ae2.L1b
  rw [ad9]
  rfl
 | j+1,i,h,s=>by
  have hlen:=hl.1
  obtain ⟨p,hp⟩:=getL (l:=l) (i:=i) (by omega)
  have hps:sOk p.1:=hl.2 p (List.mem_of_getElem? hp)
  have hid:=bu9 (s:=p.1) (by unfold sOk at hps;omega)
  let s1:=s++[O.box [(V.str p.1,false),(V.int .i64 p.2.1,false),(V.bool p.2.2,false)]]
  obtain ⟨s',hs'⟩:=bw1 hl j (i+1) (by omega) s1
  have J2:∀b,∃s'',ae2.J2 RZ k id nm n m f1 e1 f2 e2 f3 e3 f4 (cvs l) f4 (cvs l) l.length i b s1=some (.ret [.bool (!b&&chF l j (i+1))] s''):=by
   intro b
   cases b with
   | true=>exact ⟨s1,ae2.ak5 _ _ _ _ _ _ _ _ _ _ _ _ _ _ _ _ _ _ _ rfl⟩
   | false=>
    refine ⟨s',?_⟩
    apply ae2.ak5
    unfold ae2.J2b
    simp only [cond_false,w6_1 (show i<9223372036854775807 by omega)]
    exact hs'
  have hck:(decide (0<=z0)&&(decide (z0<=(i:Int))&&decide ((i:Int)<=((cvs l).length:Int))))=true:=by
   rw [ay0]
   simp only [Bool.and_eq_true,decide_eq_true_eq]
   exact ⟨Int.le_refl _,by show (0:Int)<=i;omega,by omega⟩
  have hcf:RZ.R ae0 [.list f4 3 (cvs (l.take i)),.func (.func ak7) [] [.obj s.length 0]] s1=some (.ret [.bool (hasS p.1 ((l.take i).map (·.1)))] s1):=PContains_is (f:=false) rfl (by rw [List.length_take];omega)
  have go:∀o,(ae2.L1b RZ.R RZ.D (ae2.J2 RZ) k id nm n m f1 e1 f2 e2 f3 e3 f4 (cvs l) f4 (cvs l) l.length i s=some o->ae2.L1 RZ k id nm n m f1 e1 f2 e2 f3 e3 f4 (cvs l) f4 (cvs l) l.length i s=some o):=fun o h=>ae2.ak4 _ _ _ _ _ _ _ _ _ _ _ _ _ _ _ _ _ _ h
  have key:∃b s'',ae2.L1b RZ.R RZ.D (ae2.J2 RZ) k id nm n m f1 e1 f2 e2 f3 e3 f4 (cvs l) f4 (cvs l) l.length i s=ae2.J2 RZ k id nm n m f1 e1 f2 e2 f3 e3 f4 (cvs l) f4 (cvs l) l.length i b s1/\s''=s1/\(!b)=(iddB p.1&&decide (0<=p.2.1)&&ordB l p i&&!hasS p.1 ((l.take i).map (·.1))):=by
   unfold ae2.L1b
   rw [af3 (by omega)]
   simp only [cond_true,aN7 hp,pv,ah7,aC_v,aS_v,aN_v,aI_v,aB_v]
   rw [wrO_new3]
   rw [aG5 (f:=false) (v:=.str p.1) rfl]
   simp only [aS_v,vS,hid,cP_B,aB_v]
   cases hidd:iddB p.1 with
   | false=>exact ⟨true,_,rfl,rfl,by simp⟩
   | true=>
    simp only [Bool.not_true,cond_false]
    rw [aG5 (f:=false) (v:=.int .i64 p.2.1) rfl]
    simp only [aI_v]
    by_cases h0:p.2.1<0
    ·rw [decide_eq_true h0]
     exact ⟨true,_,rfl,rfl,by rw [decide_eq_false (show ¬0<=p.2.1 by omega)];simp⟩
    ·rw [decide_eq_false h0]
     simp only [cond_false,hck,ck,cond_true,take_cvs]
     rw [decide_eq_true (show 0<=p.2.1 by omega)]
     cases i with
     | zero=>
      rw [show decide (((0:Nat):Int)>0)=false from rfl]
      simp only [cond_false]
      refine ⟨hasS p.1 ((l.take 0).map (·.1)),s1,?_,rfl,by simp [ordB]⟩
      exact cS_v hcf
     | succ i=>
      rw [show decide (((i+1:Nat):Int)>0)=true from decide_eq_true (by omega)]
      obtain ⟨q,hq⟩:=getL (l:=l) (i:=i) (by omega)
      simp only [cond_true,bt5 (show i+1<9223372036854775807 by omega),aN7 hq,pv,ah7,aC_v,aS_v,aN_v,aI_v,aB_v]
      rw [aG5 (f:=false) (v:=.int .i64 p.2.1) rfl]
      simp only [aI_v,ordB,hq]
      by_cases hlt:p.2.1<q.2.1
      ·rw [decide_eq_true hlt]
       exact ⟨true,_,rfl,rfl,by rw [decide_eq_false (show ¬q.2.1<=p.2.1 by omega)];simp⟩
      ·rw [decide_eq_false hlt]
       simp only [cond_false]
       refine ⟨hasS p.1 ((l.take (i+1)).map (·.1)),s1,?_,rfl,by rw [decide_eq_true (show q.2.1<=p.2.1 by omega)];simp⟩
       exact cS_v hcf
  obtain ⟨b,_,hk,_,hb⟩:=key
  obtain ⟨s'',h2⟩:=J2 b
  refine ⟨s'',go _ ?_⟩
  rw [hk,h2]
  simp only [chF,hp,←hb]
def aF2 (kl:Nat)(id:ByteArray)(l:List Pt):Bool:=decide (1<=l.length)&&decide (l.length<=6)&&(match l[0]? with | some p=>!p.2.2 | none=>false)&&(match l[l.length-1]? with | some p=>decide (p.2.1=kl)&&decide (p.1=id) | none=>false)&&chF l l.length 0
theorem chain_is (hl:cOk l)(he2:e2.length<4611686018427387904):∃s',RZ.R aV0 [.agg [.int .i64 k,.str id,.str nm,.int .i64 n,.int .i64 m,.list f1 1 e1,.list f2 9 e2,.list f3 1 e3,.list f4 3 (cvs l)]] []=some (.ret [.bool (aF2 e2.length id l)] s'):=by
 have hlen:=hl.1
 obtain ⟨s',hs'⟩:=bw1 (k:=k) (id:=id) (nm:=nm) (n:=n) (m:=m) (f1:=f1) (f2:=f2) (f3:=f3) (f4:=f4) (e1:=e1) (e2:=e2) (e3:=e3) hl l.length 0 (by omega) []
 have J0:∀b,∃s'',ae2.J0 RZ k id nm n m f1 e1 f2 e2 f3 e3 f4 (cvs l) b=some (.ret [.bool (!b&&chF l l.length 0)] s''):=by
  intro b
  cases b with
  | true=>exact ⟨[],ae2.ad0 _ _ _ _ _ _ _ _ _ _ _ _ _ _ rfl⟩
  | false=>
   refine ⟨s',?_⟩
   apply ae2.ad0
   unfold ae2.J0b
   rw [ay0]
   exact hs'
 have key:∃b,ae2.b RZ.R RZ.D (ae2.J0 RZ) k id nm n m f1 e1 f2 e2 f3 e3 f4 (cvs l)=ae2.J0 RZ k id nm n m f1 e1 f2 e2 f3 e3 f4 (cvs l) b/\(!b)=(decide (1<=l.length)&&decide (l.length<=6)&&(match l[0]? with | some p=>!p.2.2 | none=>false)&&(match l[l.length-1]? with | some p=>decide (p.2.1=e2.length)&&decide (p.1=id) | none=>false)):=by
  unfold ae2.b
  rw [ay0]
  by_cases h1:l.length=0
  ·refine ⟨true,?_,?_⟩
   ·rw [show decide ((l.length:Int)<1)=true by simp;omega];rfl
   ·rw [decide_eq_false (show ¬1<=l.length by omega)];rfl
  ·rw [show decide ((l.length:Int)<1)=false by simp;omega,decide_eq_true (show 1<=l.length by omega)]
   by_cases h6:l.length<=6
   ·rw [show decide ((l.length:Int)>6)=false by simp;omega,decide_eq_true h6]
    obtain ⟨p,hp⟩:=getL (l:=l) (i:=0) (by omega)
    obtain ⟨q,hq⟩:=getL (l:=l) (i:=l.length-1) (by omega)
    have hw:w6 ((l.length:Int)-z1)=((l.length-1:Nat):Int):=by
     have:=bt5 (i:=l.length-1) (by omega)
     rw [show l.length-1+1=l.length by omega] at this
     exact this
    simp only [cond_false,show z0=((0:Nat):Int) from rfl,aN7 hp,hw,aN7 hq,pv,ah7,aC_v,aS_v,aN_v,aI_v,aB_v,hp,hq,strB]
    cases h0:p.2.2 with
    | true=>exact ⟨true,rfl,by simp⟩
    | false=>
     simp only [cond_false]
     by_cases hn:q.2.1=e2.length
     ·rw [show (q.2.1 !=(e2.length:Int))=false by simp [hn],decide_eq_true hn]
      exact ⟨!decide (q.1=id),rfl,by simp⟩
     ·rw [show (q.2.1 !=(e2.length:Int))=true by simp [hn],decide_eq_false hn]
      exact ⟨true,rfl,by simp⟩
   ·rw [show decide ((l.length:Int)>6)=true by simp;omega,decide_eq_false h6]
    exact ⟨true,rfl,by simp⟩
 obtain ⟨b,hk,hb⟩:=key
 obtain ⟨s'',h2⟩:=J0 b
 refine ⟨s'',?_⟩
 apply ae2.b_of
 rw [hk,h2]
 unfold aF2
 rw [←hb]
end
end Go.Proofs.YtflhfchgdpbhcaaGreat.E
set_option maxRecDepth 100000
namespace Go.Proofs.YtflhfchgdpbhcaaGreat.E
open Go
def chG (l:List Pt):Nat->Nat->Bool
 | 0,_=>true
 | k+1,i=>(match l[i]? with | some p=>iddB p.1&&decide (0<=p.2.1)&&ordB l p i | none=>false)&&chG l k (i+1)
theorem map_at {l:List Pt}{i:Nat}{p:Pt}(h:l[i]? =some p):(l.map (·.1))[i]? =some p.1:=by rw [List.getElem?_map,h];rfl
theorem chF_chG (l:List Pt):∀(k i:Nat),i+k=l.length->chF l k i=(chG l k i&&ndF (l.map (·.1)) k i)
 | 0,i,h=>rfl
 | k+1,i,h=>by
  obtain ⟨p,hp⟩:=getL (l:=l) (i:=i) (by omega)
  simp only [chF,chG,ndF,hp,map_at hp,chF_chG l k (i+1) (by omega),List.map_take]
  generalize ordB l p i=x
  generalize (iddB p.1&&decide (0<=p.2.1))=y
  generalize hasS p.1 (List.take i (l.map (·.1)))=z
  generalize chG l k (i+1)=u
  generalize ndF (l.map (·.1)) k (i+1)=v
  cases x<;>cases y<;>cases z<;>cases u<;>cases v<;>rfl
theorem apK_ok {es xs:List V}{b:Nat}{K:R}(h:(es.length+xs.length)*b<=140737488355328)(h2:es.length+xs.length<=140737488355328):apK es xs b K=K:=by
 unfold apK
 rw [Nat.ble_eq_true_of_le h,Nat.ble_eq_true_of_le h2]
 rfl
section
variable {k:Int} {id nm:ByteArray} {n m:Int} {f1 f2 f3 f4:Bool} {e2 e3:List V} {ns:List ByteArray} {l:List Pt}
theorem bt6 (hl:cOk l)(hs:l.length<=6):∀(j i:Nat),i+j=l.length->∀mm,af8.L1 RZ k id nm n m f1 (aa3 ns) f2 e2 f3 e3 f4 (cvs l) mm (aa3 ((l.take i).map (·.1))) f4 (cvs l) l.length i=some (.ret [.bool (chG l j i&&ndF (l.map (·.1)) l.length 0)] [])
 | 0,i,h,mm=>by
  obtain rfl:i=l.length:=by omega
  apply af8.ak4
  unfold af8.L1b
  rw [ad9,List.take_length]
  have hno:aa0 [V.list mm 1 (aa3 (l.map (·.1)))]=true:=by simp [aa0,ad1,ad4]
  simp only [cond_false,vL,hno,ck,cond_true,bf6 (m:=mm) (l:=l.map (·.1)) (by rw [List.length_map];omega),cP_B,aB_v,chG,Bool.true_and,Bool.not_not,aq6,List.length_map]
 | j+1,i,h,mm=>by
  obtain ⟨p,hp⟩:=getL (l:=l) (i:=i) (by omega)
  have hps:sOk p.1:=hl.2 p (List.mem_of_getElem? hp)
  have hid:=bm5 (s:=p.1) (by unfold sOk at hps;omega)
  have ih:=fun mm=>bt6 hl hs j (i+1) (by omega) mm
  have J2:∀b,af8.J2 RZ k id nm n m f1 (aa3 ns) f2 e2 f3 e3 f4 (cvs l) mm (aa3 ((l.take i).map (·.1))) f4 (cvs l) l.length i b p.1 p.2.1 p.2.2=some (.ret [.bool (!b&&(chG l j (i+1)&&ndF (l.map (·.1)) l.length 0))] []):=by
   intro b
   apply af8.ak5
   unfold af8.J2b
   cases b with
   | true=>rfl
   | false=>
    have hlen:(aa3 ((l.take i).map (·.1))).length<=6:=by rw [ae8,List.length_map,List.length_take];omega
    simp only [cond_false]
    rw [apK_ok (by simp only [List.length_cons,List.length_nil];omega) (by simp only [List.length_cons,List.length_nil];omega)]
    rw [w6_1 (show i<9223372036854775807 by omega)]
    have:aa3 ((l.take i).map (·.1))++[vS p.1]=aa3 ((l.take (i+1)).map (·.1)):=by
     rw [ah5 hp,List.map_append]
     unfold aa3
     rw [List.map_append]
     rfl
    rw [this,ih]
    rfl
  apply af8.ak4
  unfold af8.L1b
  rw [af3 (by omega)]
  simp only [cond_true,aN7 hp,pv,ah7,aC_v,aS_v,aN_v,aI_v,aB_v,vS,hid,cP_B,chG,hp]
  cases hidd:iddB p.1 with
  | false=>rw [show (!false)=true from rfl];simp only [cond_true,J2];refine ac3 ?_;simp
  | true=>
   simp only [Bool.not_true,cond_false]
   by_cases h0:p.2.1<0
   ·rw [decide_eq_true h0]
    simp only [cond_true,J2]
    refine ac3 ?_
    rw [decide_eq_false (show ¬0<=p.2.1 by omega)];simp
   ·rw [decide_eq_false h0,decide_eq_true (show 0<=p.2.1 by omega)]
    simp only [cond_false]
    cases i with
    | zero=>
     rw [show decide (((0:Nat):Int)>0)=false from rfl]
     simp only [cond_false,J2,ordB]
     refine ac3 ?_;simp
    | succ i=>
     rw [show decide (((i+1:Nat):Int)>0)=true from decide_eq_true (by omega)]
     obtain ⟨q,hq⟩:=getL (l:=l) (i:=i) (by omega)
     simp only [cond_true,bt5 (show i+1<9223372036854775807 by omega),aN7 hq,pv,ah7,aC_v,aS_v,aN_v,aI_v,aB_v,J2,ordB,hq]
     refine ac3 ?_
     rw [show decide (p.2.1<q.2.1)= !decide (q.2.1<=p.2.1) by by_cases h:q.2.1<=p.2.1<;>simp [h]<;>omega]
     simp [Bool.and_assoc]
theorem value_is (hl:cOk l)(hn:lOk ns)(he2:e2.length<4611686018427387904):RZ.R aw8 [.agg [.int .i64 k,.str id,.str nm,.int .i64 n,.int .i64 m,.list f1 1 (aa3 ns),.list f2 9 e2,.list f3 1 e3,.list f4 3 (cvs l)]] []=some (.ret [.bool (aF2 e2.length id l&&(decide (e2.length<=24)&&((ns.length:Int)==(e2.length:Int)&&nmsB ns)))] []):=by
 have hlen:=hl.1
 have J0:∀b,(b=false->l.length<=6)->af8.J0 RZ k id nm n m f1 (aa3 ns) f2 e2 f3 e3 f4 (cvs l) b=some (.ret [.bool (!b&&chF l l.length 0)] []):=by
  intro b hb
  apply af8.ad0
  unfold af8.J0b
  cases b with
  | true=>rfl
  | false=>
   have:=bt6 (k:=k) (id:=id) (nm:=nm) (n:=n) (m:=m) (f1:=f1) (f2:=f2) (f3:=f3) (f4:=f4) (e2:=e2) (e3:=e3) (ns:=ns) hl (hb rfl) l.length 0 (by omega) false
   rw [List.take_zero] at this
   rw [ay0]
   simp only [cond_false]
   refine this.trans ?_
   rw [chF_chG l l.length 0 (by omega)]
   simp
 apply af8.b_of
 unfold af8.b aF2
 rw [ay0]
 by_cases h1:l.length=0
 ·rw [show decide ((l.length:Int)<1)=true by simp;omega]
  simp only [cond_true]
  rw [J0 true (by simp)]
  refine ac3 ?_
  rw [decide_eq_false (show ¬1<=l.length by omega)];simp
 ·rw [show decide ((l.length:Int)<1)=false by simp;omega,decide_eq_true (show 1<=l.length by omega)]
  by_cases h6:l.length<=6
  ·rw [show decide ((l.length:Int)>6)=false by simp;omega,decide_eq_true h6]
   obtain ⟨p,hp⟩:=getL (l:=l) (i:=0) (by omega)
   obtain ⟨q,hq⟩:=getL (l:=l) (i:=l.length-1) (by omega)
   have hw:w6 ((l.length:Int)-z1)=((l.length-1:Nat):Int):=by
    have:=bt5 (i:=l.length-1) (by omega)
    rw [show l.length-1+1=l.length by omega] at this
    exact this
   have hno:aa0 [V.list f1 1 (aa3 ns),V.int .i64 e2.length]=true:=by simp [aa0,ad1,ad4]
   have J0':∀b,af8.J0 RZ k id nm n m f1 (aa3 ns) f2 e2 f3 e3 f4 (cvs l) b=some (.ret [.bool (!b&&chF l l.length 0)] []):=fun b=>J0 b fun _=>h6
   simp only [cond_false,show z0=((0:Nat):Int) from rfl,aN7 hp,hw,aN7 hq,pv,ah7,aC_v,aS_v,aN_v,aI_v,aB_v,hp,hq,strB,vL,vI,hno,ck,cond_true,aN1 hn,cP_B,J0',ac4]
   refine ac3 ?_
   rw [show (q.2.1 !=(e2.length:Int))= !decide (q.2.1=e2.length) by rw [Bool.eq_iff_iff];simp,show decide ((e2.length:Int)>24)= !decide (e2.length<=24) by by_cases h:e2.length<=24<;>simp [h]<;>omega]
   generalize ((ns.length:Int)==(e2.length:Int)&&nmsB ns)=x
   generalize chF l l.length 0=y
   cases p.2.2<;>cases decide (q.2.1=(e2.length:Int))<;>cases decide (q.1=id)<;>cases decide (e2.length<=24)<;>cases x<;>cases y<;>rfl
  ·rw [show decide ((l.length:Int)>6)=true by simp;omega,decide_eq_false h6]
   simp only [cond_true,cond_false]
   rw [J0 true (by simp)]
   refine ac3 ?_
   simp
end
end Go.Proofs.YtflhfchgdpbhcaaGreat.E
set_option maxRecDepth 100000
namespace Go.Proofs.YtflhfchgdpbhcaaGreat.E
open Go
inductive Ty where
 | mk (k:Int) (id nm:ByteArray) (n m:Int) (f1:Bool) (ns:List ByteArray) (f2:Bool) (ks:List Ty) (f3:Bool) (ls:List (Bool×List Int)) (f4:Bool) (ch:List Pt)
def ints (l:List Int):List V:=l.map fun x=>V.int .i64 x
def lv (p:Bool×List Int):V:=.list p.1 1 (ints p.2)
def lvs (l:List (Bool×List Int)):List V:=l.map lv
mutual
def tv :Ty->V
 | .mk k id nm n m f1 ns f2 ks f3 ls f4 ch=>.agg [.int .i64 k,.str id,.str nm,.int .i64 n,.int .i64 m,.list f1 1 (aa3 ns),.list f2 9 (tvs ks),.list f3 1 (lvs ls),.list f4 3 (cvs ch)]
def tvs :List Ty->List V
 | []=>[]
 | t::r=>tv t::tvs r
end
mutual
def tOk :Ty->Prop
 | .mk _ id nm _ _ _ ns _ ks _ ls _ ch=>sOk id/\sOk nm/\lOk ns/\(ls.length<4611686018427387904/\∀l∈ls,l.2.length<4611686018427387904)/\cOk ch/\ks.length<4611686018427387904/\tsOk ks
def tsOk :List Ty->Prop
 | []=>True
 | t::r=>tOk t/\tsOk r
end
theorem as0 :∀l,tvs l=l.map tv
 | []=>rfl
 | t::r=>by rw [tvs,as0 r];rfl
theorem ad8 (l:List Ty):(tvs l).length=l.length:=by rw [as0,List.length_map]
theorem am8 (l:List Int):(ints l).length=l.length:=List.length_map _
theorem aq7 (l:List (Bool×List Int)):(lvs l).length=l.length:=List.length_map _
theorem ints_at {l:List Int}{i:Nat}{x:Int}(h:l[i]? =some x)(K:V->R):idxK (ints l) (i:Int) K=K (.int .i64 x):=as5 (by unfold ints;rw [List.getElem?_map,h];rfl) K
theorem aU2 {l:List (Bool×List Int)}{i:Nat}{x:Bool×List Int}(h:l[i]? =some x)(K:V->R):idxK (lvs l) (i:Int) K=K (.list x.1 1 (ints x.2)):=as5 (by unfold lvs;rw [List.getElem?_map,h];rfl) K
theorem aE6 {l:List Ty}{i:Nat}{x:Ty}(h:l[i]? =some x)(K:V->R):idxK (tvs l) (i:Int) K=K (tv x):=as5 (by rw [as0,List.getElem?_map,h];rfl) K
theorem at4 :∀l:List Int,aa0 (ints l)=true
 | []=>rfl
 | _::r=>at4 r
theorem ap3 :∀l:List (Bool×List Int),aa0 (lvs l)=true
 | []=>rfl
 | x::r=>by
  show (aa0 (ints x.2)&&aa0 (lvs r))=true
  rw [at4,ap3 r];rfl
mutual
theorem ad6 :∀t:Ty,ad1 (tv t)=true
 | .mk k id nm n m f1 ns f2 ks f3 ls f4 ch=>by
  simp [tv,ad1,aa0,ad4,ap3,ak3,ap9 ks]
theorem ap9 :∀l:List Ty,aa0 (tvs l)=true
 | []=>rfl
 | t::r=>by simp [tvs,aa0,ad6 t,ap9 r]
end
def fitB (k:Int)(nn:Nat)(x:Int):Bool:=
 if k=1 then decide (x=0∨x=1) else if k=2∨k=3 then decide (0<=x/\x<=255) else if k=4 then decide (-32768<=x/\x<=32767) else if k=5 then decide (-2147483648<=x/\x<=2147483647) else if k=6 then true else if k=9 then decide (0<=x/\x<nn) else false
section
variable {k:Int} {id nm:ByteArray} {n m:Int} {f1 f2 f3 f4:Bool} {e1 e2 e3 e4:List V}
theorem bc4 {α:Type}{a b:Int}{x y:α}:(bif a==b then x else y)=if a=b then x else y:=by
 by_cases h:a=b
 ·rw [if_pos h,beq_iff_eq.2 h];rfl
 ·rw [if_neg h,beq_eq_false_iff_ne.2 h];rfl
theorem kind_fits_is (x:Int):RZ.R aZ1 [.agg [.int .i64 k,.str id,.str nm,.int .i64 n,.int .i64 m,.list f1 1 e1,.list f2 9 e2,.list f3 1 e3,.list f4 3 e4],.int .i64 x] []=some (.ret [.bool (fitB k e1.length x)] []):=by
 apply ak0.b_of
 unfold ak0.b
 have J0:∀b,ak0.J0 RZ b=some (.ret [.bool b] []):=fun b=>ak0.ad0 b rfl
 have J3:∀b,ak0.J3 RZ b=some (.ret [.bool b] []):=fun b=>ak0.aH9 b rfl
 have J4:∀b,ak0.J4 RZ b=some (.ret [.bool b] []):=fun b=>ak0.aS3 b rfl
 have J5:∀b,ak0.J5 RZ b=some (.ret [.bool b] []):=fun b=>ak0.aM6 b rfl
 have J2:∀b c d,ak0.J2 RZ k id nm n m f1 e1 f2 e2 f3 e3 f4 e4 b c d=some (.ret [.bool b] []):=fun b c d=>ak0.ak5 _ _ _ _ _ _ _ _ _ _ _ _ _ b c d rfl
 have J1:∀b,ak0.J1 RZ x k id nm n m f1 e1 f2 e2 f3 e3 f4 e4 k b=some (.ret [.bool (bif b then decide (0<=x/\x<=255) else if k=4 then decide (-32768<=x/\x<=32767) else if k=5 then decide (-2147483648<=x/\x<=2147483647) else if k=6 then true else if k=9 then decide (0<=x/\x<e1.length) else false)] []):=by
  intro b
  apply ak0.an7
  unfold ak0.J1b
  cases b with
  | true=>
   simp only [cond_true,J2,ac4]
   refine ac3 ?_
   rw [Bool.eq_iff_iff];((try simp only [av8,decide_eq_true_eq,Bool.false_eq_true,and_false,or_false]);try omega)
  | false=>
   simp only [cond_false,J3,J4,J5,ac4,aq6]
   refine ac3 ?_
   simp only [bc4]
   by_cases h4:k=4
   ·simp only [h4,if_true];rw [Bool.eq_iff_iff];((try simp only [av8,decide_eq_true_eq,Bool.false_eq_true,and_false,or_false]);try omega)
   ·by_cases h5:k=5
    ·simp only [h5,if_true];rw [Bool.eq_iff_iff];simp only [show ¬((5:Int)=4) by decide,if_false];((try simp only [av8,decide_eq_true_eq,Bool.false_eq_true,and_false,or_false]);try omega)
    ·by_cases h6:k=6
     ·simp only [h6];rfl
     ·by_cases h9:k=9
      ·simp only [h9,show ¬((9:Int)=4) by decide,show ¬((9:Int)=5) by decide,show ¬((9:Int)=6) by decide,if_false,if_true];rw [Bool.eq_iff_iff];((try simp only [av8,decide_eq_true_eq,Bool.false_eq_true,and_false,or_false]);try omega)
      ·simp only [h4,h5,h6,h9,if_false]
 simp only [J0,J1,ac4]
 refine ac3 ?_
 simp only [bc4]
 unfold fitB
 by_cases h1:k=1
 ·rw [if_pos h1,if_pos (show k=z1 from h1),Bool.eq_iff_iff,decide_eq_true_eq]
  by_cases h0:x=0
  ·rw [if_pos (show x=z0 from h0)];simp [h0]
  ·rw [if_neg (show ¬x=z0 from h0),beq_iff_eq];show x=1↔_;omega
 ·rw [if_neg h1,if_neg (show ¬k=z1 from h1)]
  by_cases h2:k=2
  ·subst h2;rfl
  ·by_cases h3:k=3
   ·subst h3;rfl
   ·rw [if_neg h2,if_neg h3,if_neg (by omega:¬(k=2∨k=3))]
theorem ref03_fits_is (x:Int):RZ.R aU7 [.agg [.int .i64 k,.str id,.str nm,.int .i64 n,.int .i64 m,.list f1 1 e1,.list f2 9 e2,.list f3 1 e3,.list f4 3 e4],.int .i64 x] []=some (.ret [.bool (fitB k e1.length x)] []):=by
 apply ag7.b_of
 unfold ag7.b
 have J0:∀b,ag7.J0 RZ b=some (.ret [.bool b] []):=fun b=>ag7.ad0 b rfl
 have J3:∀b,ag7.J3 RZ b=some (.ret [.bool b] []):=fun b=>ag7.aH9 b rfl
 have J4:∀b,ag7.J4 RZ b=some (.ret [.bool b] []):=fun b=>ag7.aS3 b rfl
 have J5:∀b,ag7.J5 RZ b=some (.ret [.bool b] []):=fun b=>ag7.aM6 b rfl
 have J2:∀b c d,ag7.J2 RZ k id nm n m f1 e1 f2 e2 f3 e3 f4 e4 b c d=some (.ret [.bool b] []):=fun b c d=>ag7.ak5 _ _ _ _ _ _ _ _ _ _ _ _ _ b c d rfl
 have J1:∀b,ag7.J1 RZ x k id nm n m f1 e1 f2 e2 f3 e3 f4 e4 k b=some (.ret [.bool (bif b then decide (0<=x/\x<=255) else if k=4 then decide (-32768<=x/\x<=32767) else if k=5 then decide (-2147483648<=x/\x<=2147483647) else if k=6 then true else if k=9 then decide (0<=x/\x<e1.length) else false)] []):=by
  intro b
  apply ag7.an7
  unfold ag7.J1b
  cases b with
  | true=>
   simp only [cond_true,J2,ac4]
   refine ac3 ?_
   rw [Bool.eq_iff_iff];((try simp only [av8,decide_eq_true_eq,Bool.false_eq_true,and_false,or_false]);try omega)
  | false=>
   simp only [cond_false,J3,J4,J5,ac4,aq6]
   refine ac3 ?_
   simp only [bc4]
   by_cases h4:k=4
   ·simp only [h4,if_true];rw [Bool.eq_iff_iff];((try simp only [av8,decide_eq_true_eq,Bool.false_eq_true,and_false,or_false]);try omega)
   ·by_cases h5:k=5
    ·simp only [h5,if_true];rw [Bool.eq_iff_iff];simp only [show ¬((5:Int)=4) by decide,if_false];((try simp only [av8,decide_eq_true_eq,Bool.false_eq_true,and_false,or_false]);try omega)
    ·by_cases h6:k=6
     ·simp only [h6];rfl
     ·by_cases h9:k=9
      ·simp only [h9,show ¬((9:Int)=4) by decide,show ¬((9:Int)=5) by decide,show ¬((9:Int)=6) by decide,if_false,if_true];rw [Bool.eq_iff_iff];((try simp only [av8,decide_eq_true_eq,Bool.false_eq_true,and_false,or_false]);try omega)
      ·simp only [h4,h5,h6,h9,if_false]
 simp only [J0,J1,ac4]
 refine ac3 ?_
 simp only [bc4]
 unfold fitB
 by_cases h1:k=1
 ·rw [if_pos h1,if_pos (show k=z1 from h1),Bool.eq_iff_iff,decide_eq_true_eq]
  by_cases h0:x=0
  ·rw [if_pos (show x=z0 from h0)];simp [h0]
  ·rw [if_neg (show ¬x=z0 from h0),beq_iff_eq];show x=1↔_;omega
 ·rw [if_neg h1,if_neg (show ¬k=z1 from h1)]
  by_cases h2:k=2
  ·subst h2;rfl
  ·by_cases h3:k=3
   ·subst h3;rfl
   ·rw [if_neg h2,if_neg h3,if_neg (by omega:¬(k=2∨k=3))]
end
end Go.Proofs.YtflhfchgdpbhcaaGreat.E
