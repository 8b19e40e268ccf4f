/- It is proved of what the evaluator is told of this program that it holds, of strconv.Itoa and strings.Join too, so that an evaluation is worth a call. No condition. -/
import Derived.Test.YtnpjififnhjbbaaDoorBR
import Derived.Test.YtnpjififnhjbbaaDoorLH
import Derived.Test.YtnpjififnhjbbaaDoorShelf
import Derived.KernelRfl
set_option maxRecDepth 100000
namespace Go.Proofs.YtnpjififnhjbbaaDoor.E
open Go Go.RowKit
theorem hmixed :Tryd.prog.follows .mixedOrders=true:=by kernel_rfl
theorem lkM_mem :∀{l:List (Nat×String×Nat)} {t:Nat} {m:String} {g:Nat},lkM l t m=some g->(t,m,g)∈l
 | [],t,m,g,h=>by cases h
 | (k,n,g')::r,t,m,g,h=>by
  simp only [lkM] at h
  cases hb:(Nat.beq k t&&decide (n=m)) with
  | true=>
   rw [hb] at h
   simp only [cond_true,Option.some.injEq] at h
   simp only [Bool.and_eq_true,decide_eq_true_eq] at hb
   have:=Nat.eq_of_beq_eq_true hb.1
   rw [←h,←this,←hb.2]
   exact List.mem_cons_self
  | false=>rw [hb] at h;exact List.mem_cons_of_mem _ (lkM_mem h)
def AllM :List (Nat×String×Nat)->Prop
 | []=>True
 | p::r=>(∀(v:Value) (w:World),(method (Tryd.prog.types.size+Made.depth) p.1 v p.2.1).run Tryd.prog w=.ok (p.2.2,v) w)/\AllM r
theorem AllM.mem :∀{l:List (Nat×String×Nat)} {p:Nat×String×Nat},AllM l->p∈l->∀(v:Value) (w:World),(method (Tryd.prog.types.size+Made.depth) p.1 v p.2.1).run Tryd.prog w=.ok (p.2.2,v) w
 | [],p,_,h=>by cases h
 | q::r,p,⟨h1,h2⟩,h=>by
  rcases List.mem_cons.1 h with h | h
  ·rw [h];exact h1
  ·exact AllM.mem h2 h
theorem allM :AllM hMeth:=by
 unfold hMeth
 repeat' first
  | exact trivial
  | (refine ⟨fun v w=>?_,?_⟩;· kernel_rfl)
theorem hmeth (t:Nat)(m:String)(g:Nat)(h:HH.meth t m=some g)(v:Value)(w:World):(method (Tryd.prog.types.size+Made.depth) t v m).run Tryd.prog w=.ok (g,v) w:=
 allM.mem (lkM_mem (show lkM hMeth t m=some g from h)) v w
theorem hok (g:Nat)(h:HH.ok g=true)(args:Array Value)(w:World):(callFunc g args).run Tryd.prog w=.ok (.enter g args) w:=ok_of hok_all g h args w
theorem hfn (g:Nat)(h:HH.ok g=true):g<Tryd.prog.funcs.size:=by
 have hm:(g,true)∈hOk:=lk_mem (show lk false hOk g=true from h) (by simp)
 have:=List.all_eq_true.1 hok_fn _ hm
 simpa [Nat.blt_eq] using this
theorem hext (g:Nat)(e:List V->Option V)(h:HH.ext g=some e):False:=by
 have h:extOf g=some e:=h
 unfold extOf at h
 split at h
 ·rename_i h1;cases h1
 ·cases h
theorem hHH :HOk Tryd.prog HH:=⟨hmixed,fun g e h=>(hext g e h).elim,hok,hfn,(fun g cs h=>by cases h),hmeth⟩
theorem gItoa_ok :aT6 Tryd.prog HH 62 gItoa:=bf6 rfl fun args s out h=>by
 match args,h with
 | [.int .i64 n],h=>
  have h2:(if 0<=n/\n<100 then some (Out.ret [.str ⟨(Lib.decDigits n.toNat).toArray⟩] s) else none)=some out:=h
  clear h
  by_cases hc:0<=n/\n<100
  ·rw [if_pos hc] at h2
   cases h2
   refine ⟨_,rfl,fun mo own w args' hsr ha hgl=>?_⟩
   obtain ⟨l⟩:=args'
   match l,ha.1 with
   | [x],_=>
    have hx:=ha.2 0 _ x rfl rfl
    cases hx
    obtain ⟨i,rfl⟩:∃i:Nat,n=i:=⟨n.toNat,by omega⟩
    refine (Tryd.strconv_Itoa_small i (by omega) w).mono ?_
    rintro e w' ⟨rfl,rfl⟩
    exact ⟨_,rfl,Below.refl _ _,.str _⟩
  ·rw [if_neg hc] at h2;cases h2
def bc3 (l:List ByteArray):List V:=l.map V.str
theorem aQ4 :∀(es:List V) (xs:List ByteArray),aM5 es=some xs->es=bc3 xs
 | [],xs,h=>by cases h;rfl
 | v::r,xs,h=>by
  cases v with
  | str a=>
   simp only [aM5] at h
   obtain ⟨ys,h1,h2⟩:=Option.map_eq_some_iff.1 h
   rw [←h2,aQ4 r ys h1]
   rfl
  | _=>cases h
theorem heldO_some {s:List O}{id off n:Nat}{es:List V}(h:heldO s id off n=some es):∃box,s[id]? =some (.box box)/\off+n<=box.length/\es=((box.drop off).take n).map (·.1):=by
 unfold heldO at h
 split at h
 ·rename_i box hb
  have q:=aa2 h
  clear h
  obtain ⟨h1,h2⟩:=q
  cases h2
  exact ⟨box,hb,by simpa using h1,rfl⟩
 ·cases h
theorem gJoin_ok :aT6 Tryd.prog HH 63 gJoin:=bf6 rfl fun args s out h=>by
 match args,h with
 | [.list true 1 es,.str sep],h=>
  have h2:(aM5 es).bind (fun xs=>if xs.length<=140737488355328/\(Lib.join (xs.map (·.data.toList)) sep.data.toList).length<=140737488355328 then some (Out.ret [.str ⟨(Lib.join (xs.map (·.data.toList)) sep.data.toList).toArray⟩] s) else none)=some out:=h
  clear h
  obtain ⟨xs,hxs,h3⟩:=Option.bind_eq_some_iff.1 h2
  by_cases hc:xs.length<=140737488355328/\(Lib.join (xs.map (·.data.toList)) sep.data.toList).length<=140737488355328
  ·rw [if_pos hc] at h3
   cases h3
   refine ⟨_,rfl,fun mo own w args' hsr ha hgl=>?_⟩
   obtain rfl:=aQ4 es xs hxs
   obtain ⟨l⟩:=args'
   match l,ha.1 with
   | [x,y],_=>
    have hx:=ha.2 0 _ x rfl rfl
    have hy:=ha.2 1 _ y rfl rfl
    cases hy
    cases hx with
    | list _ _ b o c f n hn hcap hk hg g1 g2 sp hsp=>
    cases xs with
    | nil=>
     obtain rfl:n=0:=by simpa [bc3] using hn.symm
     refine (Tryd.strings_Join_none (some ⟨b,o,sp⟩) c sep w).mono ?_
     rintro e w' ⟨rfl,rfl⟩
     exact ⟨_,rfl,Below.refl _ _,.str _⟩
    | cons z xs=>
     obtain rfl:sp=none:=by
      rcases hsp with h | h
      ·exact h
      ·exfalso;simp [bc3] at hn;omega
     have hcells:∀(j:Nat) x,(z::xs)[j]? =some x->w.cell? ⟨b,o+j,none⟩=some (.string x):=by
      intro j x hj
      have he:(bc3 (z::xs))[j]? =some (V.str x):=by unfold bc3;rw [List.getElem?_map,hj];rfl
      have c1:=(g1 j (V.str x) 0 (V.str x) he rfl).1
      have c2:=g2 j (V.str x) 0 (V.str x) he rfl
      rw [Nat.mul_one,Nat.add_zero] at c1
      rw [c1]
      generalize f j 0=u at c2
      cases c2
      rfl
     obtain rfl:n=(z::xs).length:=by rw [←hn];simp [bc3]
     refine (Tryd.strings_Join b o c (z::xs) sep w hcells (aM0 (hcells 0 z rfl)) hc.1 hcap hc.2).mono ?_
     rintro e w' ⟨rfl,hb⟩
     exact ⟨_,rfl,hb,.str _⟩
  ·rw [if_neg hc] at h3;cases h3
 | [.slo id off 1 n c0,.str sep],h=>
  have h2:(heldO s id off n).bind (fun es=>(aM5 es).bind (fun xs=>if xs.length<=140737488355328/\(Lib.join (xs.map (·.data.toList)) sep.data.toList).length<=140737488355328 then some (Out.ret [.str ⟨(Lib.join (xs.map (·.data.toList)) sep.data.toList).toArray⟩] s) else none))=some out:=h
  clear h
  obtain ⟨es,hes,h2⟩:=Option.bind_eq_some_iff.1 h2
  obtain ⟨xs,hxs,h3⟩:=Option.bind_eq_some_iff.1 h2
  by_cases hc:xs.length<=140737488355328/\(Lib.join (xs.map (·.data.toList)) sep.data.toList).length<=140737488355328
  ·rw [if_pos hc] at h3
   cases h3
   refine ⟨_,rfl,fun mo own w args' hsr ha hgl=>?_⟩
   obtain rfl:=aQ4 es xs hxs
   obtain ⟨l⟩:=args'
   match l,ha.1 with
   | [x,y],_=>
    have hx:=ha.2 0 _ x rfl rfl
    have hy:=ha.2 1 _ y rfl rfl
    cases hy
    cases hx with
    | slo _ _ _ _ _ b m hb hn hcm hC=>
    obtain ⟨box,hbox,hle,hee⟩:=heldO_some hes
    obtain ⟨b2,cs,T,g1,g2,g3,g4⟩:=ar2 hsr hbox
    rw [Own.aj0 g1] at hb
    injection hb with hb
    injection hb with eb eC
    subst eb
    have hlen:xs.length=n:=by
     have:=congrArg List.length hee
     simp [bc3] at this
     omega
    subst hlen
    cases xs with
    | nil=>
     refine (Tryd.strings_Join_none (some ⟨b2,off,none⟩) m sep w).mono ?_
     rintro e w' ⟨rfl,rfl⟩
     exact ⟨_,rfl,Below.refl _ _,.str _⟩
    | cons z xs=>
     have hcells:∀(j:Nat) x,(z::xs)[j]? =some x->w.cell? ⟨b2,off+j,none⟩=some (.string x):=by
      intro j x hj
      have hjl:j<(z::xs).length:=(List.getElem?_eq_some_iff.1 hj).1
      have he:(bc3 (z::xs))[j]? =some (V.str x):=by unfold bc3;rw [List.getElem?_map,hj];rfl
      rw [hee,List.getElem?_map,List.getElem?_take,if_pos hjl,List.getElem?_drop] at he
      obtain ⟨⟨v,fl⟩,q1,q2⟩:=Option.map_eq_some_iff.1 he
      simp only at q2
      subst q2
      obtain ⟨c1,_,c2,_⟩:=g4 (off+j) _ fl q1
      rw [c1]
      generalize cs.getD (off+j) undef=u at c2
      cases c2
      rfl
     refine (Tryd.strings_Join b2 off m (z::xs) sep w hcells (aM0 (hcells 0 z rfl)) hc.1 (by omega) hc.2).mono ?_
     rintro e w' ⟨rfl,hb⟩
     exact ⟨_,rfl,hb,.str _⟩
  ·rw [if_neg hc] at h3;cases h3
theorem gg_cases {f:FuncId}{g:List V->List O->Option Out}(h:GG f=some g):(f=63/\g=gJoin)∨(f=62/\g=gItoa):=by
 unfold GG at h
 cases h1:Nat.beq f 63 with
 | true=>rw [h1] at h;cases h;exact .inl ⟨Nat.eq_of_beq_eq_true h1,rfl⟩
 | false=>
  rw [h1] at h
  cases h2:Nat.beq f 62 with
  | true=>rw [h2] at h;cases h;exact .inr ⟨Nat.eq_of_beq_eq_true h2,rfl⟩
  | false=>rw [h2] at h;cases h
theorem RUN_rec :aH8 Tryd.prog HH RUN:=run_rec hHH (fun f g h=>by
 rcases gg_cases h with ⟨rfl,rfl⟩ | ⟨rfl,rfl⟩
 ·exact gJoin_ok
 ·exact gItoa_ok) (fun f g h=>by
 rcases gg_cases h with ⟨rfl,_⟩ | ⟨rfl,_⟩<;>exact of_decide_eq_true (by kernel_rfl))
end Go.Proofs.YtnpjififnhjbbaaDoor.E
