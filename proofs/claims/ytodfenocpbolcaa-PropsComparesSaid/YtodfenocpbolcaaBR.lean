/- It is proved that a call at an untouched world comes to what its evaluation tells, and leaves what there was. No condition beyond the lemmas' own. -/
import Derived.Test.YtodfenocpbolcaaEXK
import Derived.Below
namespace Go.Proofs.Ytodfenocpbolcaa.E
open Go Go.RowKit
abbrev own0 : Own := fun _ => none
abbrev M0 : Nat → Nat → Prop := fun _ _ => False
theorem sr0 (w : World) : SR M0 own0 [] w where
  base := ⟨fun k r k' r' h => (by cases h), fun k r h => (by cases h), fun k r b x h => (by cases h), fun k r h => (by cases h)⟩
  objs := fun id o h => by cases h
  newObj := fun _ _ => rfl
  spare := fun id off r h => by cases h
/-- A run without objects, at an untouched world. -/
theorem calls0 {P : Program} {H : Hints} {rec : Rec} (hr : RecOk P H rec) (hg : ∀ g, H.glob g = none) {f : FuncId} {args : List V} {vs : List V} {s : List O} (h : rec f args [] = some (.ret vs s)) {args' : Array Value} {w : World}
    (ha : Args (Mut M0 own0) own0.rho w args args') : Calls P f args' w fun e w' => ∃ own' v', e = .returned v' ∧ CallPost M0 own0 w own' w' s ∧ VRel (Mut M0 own') own'.rho w' (one vs) v' := by
  have := hr f args [] (.ret vs s) h M0 own0 w args' (sr0 w) (fun _ _ => rfl) (fun b x h => h.elim) ha (fun g cs hc => by rw [hg] at hc; cases hc)
  refine this.mono ?_
  rintro e w' ⟨own', v', h1, h2, h3, _⟩
  exact ⟨own', v', h1, h2, h3⟩
theorem no_has0 (b x : Nat) : ¬ own0.has b x := by rintro ⟨k, r, h, _⟩; cases h
theorem below0 {own' : Own} {w w' : World} {s : List O} (h : CallPost M0 own0 w own' w' s) : Below w.heap.size w w' :=
  ⟨h.keep.os, h.keep.tape, h.keep.output, h.keep.size, fun k hk => h.keep.block k hk fun x => no_has0 k x⟩
theorem no_mut0 (b x : Nat) : ¬ Mut M0 own0 b x := by
  rintro (h | h)
  · exact h
  · exact no_has0 b x h
/-- A list of numbers, read. -/
theorem vrel_ints {M : Nat → Nat → Prop} {ρ : Nat → Option Nat} {w : World} {b o n c : Nat} {L : List Int} (hn : L.length = n) (hc : n ≤ c) (h : ∀ i x, L[i]? = some x → w.cell? ⟨b, o + i, none⟩ = some (.int .i64 x) ∧ ¬ M b (o + i)) :
    VRel M ρ w (.list true 1 (L.map fun n => V.int .i64 n)) (.slice (some ⟨b, o, none⟩) n c) := by
  have hx : ∀ (i : Nat) (e : V), (L.map fun n => V.int .i64 n)[i]? = some e → ∃ x, L[i]? = some x ∧ e = .int .i64 x := by
    intro i e he
    rw [List.getElem?_map] at he
    obtain ⟨x, h1, h2⟩ := Option.map_eq_some_iff.1 he
    exact ⟨x, h1, h2.symm⟩
  refine VRel.list 1 _ b o c (fun i j => .int .i64 (L.getD i 0)) n (by simp [hn]) hc ?_ ?_ ?_ ?_
  · intro e he
    obtain ⟨x, _, rfl⟩ := List.mem_map.1 he
    rfl
  · intro e he
    obtain ⟨x, _, rfl⟩ := List.mem_map.1 he
    rfl
  · intro i e j x he hj
    obtain ⟨y, h1, rfl⟩ := hx i e he
    have hj0 : j = 0 := by
      cases j with
      | zero => rfl
      | succ j => simp [V.cells] at hj
    subst hj0
    have := h i y h1
    rw [show L.getD i 0 = y by rw [List.getD_eq_getElem?_getD, h1]; rfl, Nat.mul_one, Nat.add_zero]
    exact this
  · intro i e j x he hj
    obtain ⟨y, h1, rfl⟩ := hx i e he
    have hj0 : j = 0 := by
      cases j with
      | zero => rfl
      | succ j => simp [V.cells] at hj
    subst hj0
    simp only [V.cells, List.getElem?_cons_zero, Option.some.injEq] at hj
    subst hj
    rw [show L.getD i 0 = y by rw [List.getD_eq_getElem?_getD, h1]; rfl]
    exact VRel.int _ _
end Go.Proofs.Ytodfenocpbolcaa.E
