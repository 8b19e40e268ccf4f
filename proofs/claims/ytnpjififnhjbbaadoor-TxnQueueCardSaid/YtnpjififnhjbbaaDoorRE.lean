/- What the law's arguments read, lists of lists and of truths, are the evaluator's values. No condition beyond the lemmas' own. -/
import Derived.Test.YtnpjififnhjbbaaDoorRD
import Derived.Test.YtnpjififnhjbbaaDoorP6
set_option maxRecDepth 100000
namespace Go.Proofs.YtnpjififnhjbbaaDoor.E
open Go Go.ChangeShapes
section
variable {H:Type} {enc:TypeId×Value->H} {W:World}
theorem k4 :Tryd.prog.cellsOf 4=1:=by kernel_rfl
theorem k25 :Tryd.prog.cellsOf 25=1:=by kernel_rfl
theorem bool_rd {n:Nat}{cs:List Value}{y:DataW H×List MemPlace}(h:DataW.trod enc Tryd.prog W 0 (fun _=>true) true n 4 cs=some y):∃x:Bool,True/\(V.bool x).cells.length=1/\ac5 (V.bool x).cells=true/\PRl W (V.bool x).cells cs:=by
 obtain ⟨x,rfl,rfl⟩:=DataW.trod_bool Tryd.underlying4 h
 exact ⟨x,trivial,rfl,rfl,PRl.cons (.bool x) (PRl.nil W)⟩
theorem bools_rd {t n:Nat}(ht:Tryd.prog.underlying t=some (.slice 4)){cs:List Value}{y:DataW H×List MemPlace}(h:DataW.trod enc Tryd.prog W 0 (fun _=>true) true n t cs=some y):∃(f:Bool) (l:List Bool) (v:Value),cs=[v]/\VR W (.list f 1 (bls l)) v:=by
 obtain ⟨f,ts,v,h1,h2,h3,h4,h5⟩:=bC6 (view:=V.bool) (Q:=fun _=>True) ht k4 (by omega) (fun n _ cs y h=>bool_rd h) h
 exact ⟨f,ts,v,h1,h2⟩
theorem lists_rd {t n:Nat}(ht:Tryd.prog.underlying t=some (.slice 25)){cs:List Value}{y:DataW H×List MemPlace}(h:DataW.trod enc Tryd.prog W 0 (fun _=>true) true n t cs=some y):∃(f:Bool) (l:List (Bool×List ByteArray)) (v:Value),cs=[v]/\VR W (.list f 1 (lls l)) v/\∀x∈l,sOk x.2:=by
 obtain ⟨f,ts,v,h1,h2,h3,h4,h5⟩:=bC6 (view:=fun p:Bool×List ByteArray=>V.list p.1 1 (aa1 p.2)) (Q:=fun p=>sOk p.2) ht k25 (by omega) (fun n _ cs y h=>by
  obtain ⟨f,l,v,rfl,h2,_,h4⟩:=strs_rd Tryd.underlying25 h
  exact ⟨(f,l),h4,rfl,rfl,PRl.cons h2 (PRl.nil W)⟩) h
 exact ⟨f,ts,v,h1,h2,h4⟩
end
end Go.Proofs.YtnpjififnhjbbaaDoor.E
