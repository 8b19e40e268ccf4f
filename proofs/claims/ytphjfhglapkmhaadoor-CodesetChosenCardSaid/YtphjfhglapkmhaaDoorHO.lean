/- It is proved of what the evaluator is told of this program that it holds, of strings.Split, strings.Join and of the law's example too, so that an evaluation is worth a call on the machine. No condition. -/
import Derived.Test.YtphjfhglapkmhaaDoorEXK
import Derived.Below
import Derived.Test.YtphjfhglapkmhaaDoorLH
import Derived.Test.YtphjfhglapkmhaaDoorShelf
import Derived.Test.YtphjfhglapkmhaaDoorGC
import Derived.KernelRfl
import Derived.Lib.SplitLaws
namespace Go.Proofs.YtphjfhglapkmhaaDoor.E
open Go Go.RowKit
abbrev own0 : Own := fun _ => none
abbrev M0 : Nat → Nat → Prop := fun _ _ => False
theorem sr0 (w : World) : SR M0 own0 [] w where
  base := ⟨fun k r k' r' h => (by cases h), fun k r h => (by cases h), fun k r b x h => (by cases h), fun k r h => (by cases h)⟩
  objs := fun id o h => by cases h
  newObj := fun _ _ => rfl
  spare := fun id off r h => by cases h
/-- A run without objects, at an untouched world. -/
theorem calls0 {P : Program} {H : Hints} {rec : Rec} (hr : RecOk P H rec) (hg : ∀ g, H.glob g = none) {f : FuncId} {args : List V} {vs : List V} {s : List O} (h : rec f args [] = some (.ret vs s)) {args' : Array Value} {w : World}
    (ha : Args (Mut M0 own0) own0.rho w args args') : Calls P f args' w fun e w' => ∃ own' v', e = .returned v' ∧ CallPost M0 own0 w own' w' s ∧ VRel (Mut M0 own') own'.rho w' (one vs) v' := by
  have := hr f args [] (.ret vs s) h M0 own0 w args' (sr0 w) (fun _ _ => rfl) (fun b x h => h.elim) ha (fun g cs hc => by rw [hg] at hc; cases hc)
  refine this.mono ?_
  rintro e w' ⟨own', v', h1, h2, h3, _⟩
  exact ⟨own', v', h1, h2, h3⟩
theorem no_has0 (b x : Nat) : ¬ own0.has b x := by rintro ⟨k, r, h, _⟩; cases h
theorem below0 {own' : Own} {w w' : World} {s : List O} (h : CallPost M0 own0 w own' w' s) : Below w.heap.size w w' :=
  ⟨h.keep.os, h.keep.tape, h.keep.output, h.keep.size, fun k hk => h.keep.block k hk fun x => no_has0 k x⟩
theorem no_mut0 (b x : Nat) : ¬ Mut M0 own0 b x := by
  rintro (h | h)
  · exact h
  · exact no_has0 b x h
/-- A list of numbers, read. -/
theorem vrel_ints {M : Nat → Nat → Prop} {ρ : Nat → Option Nat} {w : World} {b o n c : Nat} {L : List Int} (hn : L.length = n) (hc : n ≤ c) (h : ∀ i x, L[i]? = some x → w.cell? ⟨b, o + i, none⟩ = some (.int .i64 x) ∧ ¬ M b (o + i)) :
    VRel M ρ w (.list true 1 (L.map fun n => V.int .i64 n)) (.slice (some ⟨b, o, none⟩) n c) := by
  have hx : ∀ (i : Nat) (e : V), (L.map fun n => V.int .i64 n)[i]? = some e → ∃ x, L[i]? = some x ∧ e = .int .i64 x := by
    intro i e he
    rw [List.getElem?_map] at he
    obtain ⟨x, h1, h2⟩ := Option.map_eq_some_iff.1 he
    exact ⟨x, h1, h2.symm⟩
  refine VRel.list 1 _ b o c (fun i j => .int .i64 (L.getD i 0)) n (by simp [hn]) hc ?_ ?_ ?_ ?_
  · intro e he
    obtain ⟨x, _, rfl⟩ := List.mem_map.1 he
    rfl
  · intro e he
    obtain ⟨x, _, rfl⟩ := List.mem_map.1 he
    rfl
  · intro i e j x he hj
    obtain ⟨y, h1, rfl⟩ := hx i e he
    have hj0 : j = 0 := by
      cases j with
      | zero => rfl
      | succ j => simp [V.cells] at hj
    subst hj0
    have := h i y h1
    rw [show L.getD i 0 = y by rw [List.getD_eq_getElem?_getD, h1]; rfl, Nat.mul_one, Nat.add_zero]
    exact this
  · intro i e j x he hj
    obtain ⟨y, h1, rfl⟩ := hx i e he
    have hj0 : j = 0 := by
      cases j with
      | zero => rfl
      | succ j => simp [V.cells] at hj
    subst hj0
    simp only [V.cells, List.getElem?_cons_zero, Option.some.injEq] at hj
    subst hj
    rw [show L.getD i 0 = y by rw [List.getD_eq_getElem?_getD, h1]; rfl]
    exact VRel.int _ _
end Go.Proofs.YtphjfhglapkmhaaDoor.E
namespace Go.Proofs.YtphjfhglapkmhaaDoor.E
open Go Go.RowKit
section
variable {P : Program} {H : Hints} {mo : Nat → Nat → Prop} {own : Own} {s : List O} {w w' : World}
theorem own_lt (h : SR mo own s w) {b x : Nat} (hb : own.has b x) : b < w.heap.size := by
  obtain ⟨k, r, e, hr⟩ := hb
  have := h.base.lt k r e
  rw [← hr.1]; exact this
theorem below_cell (h : Below w.heap.size w w') {b x : Nat} {v : Value} (hc : w.cell? ⟨b, x, none⟩ = some v) : w'.cell? ⟨b, x, none⟩ = some v := by
  have hb := cell_lt hc
  have e := h.block b hb
  rw [← hc]
  unfold World.cell?
  simp only [e]
theorem below_vrel (h : Below w.heap.size w w') {M : Nat → Nat → Prop} {ρ : Nat → Option Nat} {v : V} {x : Value} (hv : VRel M ρ w v x) : VRel M ρ w' v x :=
  hv.keep (fun b x v hc hm => ⟨below_cell h hc, hm⟩) (fun _ _ e => e)
/-- The store stands for the same behind what leaves all that there was as it was. -/
theorem sr_below (h : SR mo own s w) (hb : Below w.heap.size w w') : SR mo own s w' where
  base := ⟨h.base.inj, fun k r e => Nat.lt_of_lt_of_le (h.base.lt k r e) hb.size, h.base.off, fun k r e hr => by
    obtain ⟨h1, cs, T, h2, h3⟩ := h.base.room k r e hr
    exact ⟨h1, cs, T, by rw [hb.block _ (h.base.lt k r e)]; exact h2, h3⟩⟩
  objs := fun id o ho => by
    have := h.objs id o ho
    cases o with
    | box box =>
      obtain ⟨b, cs, T, h1, h2, h3, h4⟩ := this
      refine ⟨b, cs, T, h1, by rw [hb.block _ (h.base.lt _ _ h1)]; exact h2, h3, fun j v fl x e1 e2 => ⟨(h4 j v fl x e1 e2).1, below_vrel hb (h4 j v fl x e1 e2).2.1, (h4 j v fl x e1 e2).2.2⟩⟩
    | map es c =>
      obtain ⟨b, es', h1, h2, h3, h4⟩ := this
      exact ⟨b, es', h1, by rw [hb.block _ (h.base.lt _ _ h1)]; exact h2, h3, fun j k v e e1 e2 => ⟨below_vrel hb (h4 j k v e e1 e2).1, below_vrel hb (h4 j k v e e1 e2).2.1, (h4 j k v e e1 e2).2.2⟩⟩
  newObj := h.newObj
  spare := h.spare
theorem post_below (h : SR mo own s w) (ht : ∀ k, k.shared = false → own k = none) (hb : Below w.heap.size w w') : CallPost mo own w own w' s where
  sr := sr_below h hb
  priv := fun k hk _ => ht k hk
  rho := fun _ _ e => e
  keep := ⟨hb.os, hb.tape, hb.output, hb.size, fun b hlt _ => hb.block b hlt, fun b x v hc _ => below_cell hb hc⟩
  old := fun _ _ _ h => h
  oldB := fun k r e _ => ⟨k, r, e, rfl⟩
/-- A given function that leaves all as it was, and hands back what leads nowhere it owns. -/
theorem given_below {f : FuncId} {g : List V → List O → Option Out} (hown : (H.own f).headD false = false)
    (hg : ∀ args s out, g args s = some out → ∃ vs, out = .ret vs s ∧ ∀ (M : Nat → Nat → Prop) (ρ : Nat → Option Nat) (w : World) (args' : Array Value), Args M ρ w args args' → (∀ b x, M b x → b < w.heap.size) → Glob H M ρ w →
      Calls P f args' w fun e w' => ∃ v', e = .returned v' ∧ Below w.heap.size w w' ∧ VRel M ρ w' (one vs) v') : RecOkAt P H f g := by
  intro args s out h mo own w args' hsr htok hmo ha hgl
  obtain ⟨vs, rfl, hc⟩ := hg args s out h
  refine (hc (Mut mo own) own.rho w args' ha (fun b x hm => hm.elim (hmo b x) (own_lt hsr)) hgl).mono ?_
  rintro e w' ⟨v', rfl, hb, hv⟩
  refine ⟨own, v', rfl, post_below hsr htok hb, hv, fun _ => htok _ rfl, fun hh => ?_⟩
  unfold hinted at hh
  rw [hown] at hh
  cases hh
end
end Go.Proofs.YtphjfhglapkmhaaDoor.E
set_option maxRecDepth 100000
namespace Go.Proofs.YtphjfhglapkmhaaDoor.E
open Go Go.RowKit Go.Proofs.YtphjfhglapkmhaaDoor
theorem hmixed : Tryd.prog.follows .mixedOrders = true := by kernel_rfl
theorem lkM_mem : ∀ {l : List (Nat × String × Nat)} {t : Nat} {m : String} {g : Nat}, lkM l t m = some g → (t, m, g) ∈ l
  | [], t, m, g, h => by cases h
  | (k, n, g') :: r, t, m, g, h => by
    simp only [lkM] at h
    cases hb : (Nat.beq k t && decide (n = m)) with
    | true =>
      rw [hb] at h
      simp only [cond_true, Option.some.injEq] at h
      simp only [Bool.and_eq_true, decide_eq_true_eq] at hb
      have := Nat.eq_of_beq_eq_true hb.1
      rw [← h, ← this, ← hb.2]
      exact List.mem_cons_self
    | false => rw [hb] at h; exact List.mem_cons_of_mem _ (lkM_mem h)
def AllM : List (Nat × String × Nat) → Prop
  | [] => True
  | p :: r => (∀ (v : Value) (w : World), (method (Tryd.prog.types.size + Made.depth) p.1 v p.2.1).run Tryd.prog w = .ok (p.2.2, v) w) ∧ AllM r
theorem AllM.mem : ∀ {l : List (Nat × String × Nat)} {p : Nat × String × Nat}, AllM l → p ∈ l → ∀ (v : Value) (w : World), (method (Tryd.prog.types.size + Made.depth) p.1 v p.2.1).run Tryd.prog w = .ok (p.2.2, v) w
  | [], p, _, h => by cases h
  | q :: r, p, ⟨h1, h2⟩, h => by
    rcases List.mem_cons.1 h with h | h
    · rw [h]; exact h1
    · exact AllM.mem h2 h
theorem allM : AllM hMeth := by
  unfold hMeth
  repeat' first
    | exact trivial
    | (refine ⟨fun v w => ?_, ?_⟩; · kernel_rfl)
theorem hmeth [Inhabited MXI] (t : Nat) (m : String) (g : Nat) (h : HH.meth t m = some g) (v : Value) (w : World) : (method (Tryd.prog.types.size + Made.depth) t v m).run Tryd.prog w = .ok (g, v) w :=
  allM.mem (lkM_mem (show lkM hMeth t m = some g from h)) v w
theorem hok [Inhabited MXI] (g : Nat) (h : HH.ok g = true) (args : Array Value) (w : World) : (callFunc g args).run Tryd.prog w = .ok (.enter g args) w := ok_of hok_all g h args w
theorem hext [Inhabited MXI] : ∀ g e, HH.ext g = some e → ∀ args v, e args = some v → ∀ (M : Nat → Nat → Prop) (ρ : Nat → Option Nat) (w : World) (args' : Array Value), args'.size = args.length → (∀ (j : Nat) (v : V) (x : Value), args[j]? = some v → args'[j]? = some x → VRel M ρ w v x) →
    ∃ x, (callFunc g args').run Tryd.prog w = .ok (.value x) w ∧ VRel M ρ w v x := by
  intro g e hg
  have hg : extOf g = some e := hg
  unfold extOf at hg
  split at hg
  · rename_i h1
    cases h1
  · cases hg
theorem hglob [Inhabited MXI] (g : Nat) (cs : List V) (h : HH.glob g = some cs) : noObjs cs = true := by
  have h : (bif Nat.beq g 0 then some [V.int .i64 (default : MXI).m] else none) = some cs := h
  cases e : Nat.beq g 0 with
  | true => rw [e] at h; cases h; rfl
  | false => rw [e] at h; cases h
theorem hHH [Inhabited MXI] : HOk Tryd.prog HH := ⟨hmixed, hext, hok, hglob, hmeth⟩
theorem conv_1 : P.codeset_Convert.f 2 3 (⟨#[228]⟩ : ByteArray) = some (⟨#[195, 164]⟩, 0, 0) := by kernel_rfl
theorem conv_2 : P.codeset_Convert.f 3 1 (⟨#[97, 195, 164]⟩ : ByteArray) = some (⟨#[]⟩, 1, 7) := by kernel_rfl
theorem bytes_eq {t : ByteArray} {l : List UInt8} (h : t.data.toList = l) : t = ⟨l.toArray⟩ := by
  cases t
  subst h
  rfl
theorem gConvert_ok [Inhabited MXI] : RecOkAt Tryd.prog HH 21 gConvert := given_below rfl fun args s out h => by
  match args, h with
  | [.int .i64 a, .int .i64 b, .str t], h =>
    have h2 : (bif a == 2 && b == 3 && t.data.toList == [228] then some (Out.ret [.str ⟨#[195, 164]⟩, .int .i64 0, .int .i64 0] s) else bif a == 3 && b == 1 && t.data.toList == [97, 195, 164] then some (.ret [.str ⟨#[]⟩, .int .i64 1, .int .i64 7] s) else none) = some out := h
    clear h
    have opened : ∀ (M : Nat → Nat → Prop) (ρ : Nat → Option Nat) (w : World) (args' : Array Value), Args M ρ w [.int .i64 a, .int .i64 b, .str t] args' → args' = #[.int .i64 a, .int .i64 b, .string t] := by
      intro M ρ w args' ha
      obtain ⟨l⟩ := args'
      match l, ha.1 with
      | [x, y, z], _ =>
        have hx := ha.2 0 _ x rfl rfl
        have hy := ha.2 1 _ y rfl rfl
        have hz := ha.2 2 _ z rfl rfl
        cases hx
        cases hy
        cases hz
        rfl
    have tup : ∀ (M : Nat → Nat → Prop) (ρ : Nat → Option Nat) (w : World) (r : ByteArray) (i j : Int), VRel M ρ w (one [.str r, .int .i64 i, .int .i64 j]) (.tuple #[.string r, .int .i64 i, .int .i64 j]) := by
      intro M ρ w r i j
      refine VRel.tup _ _ rfl ?_
      intro k p q hp hq
      match k, hp, hq with
      | 0, hp, hq => cases hp; cases hq; exact .str _
      | 1, hp, hq => cases hp; cases hq; exact .int _ _
      | 2, hp, hq => cases hp; cases hq; exact .int _ _
      | k + 3, hp, hq => simp at hp
    cases h1 : (a == 2 && b == 3 && t.data.toList == [228]) with
    | true =>
      rw [h1] at h2
      simp only [Bool.and_eq_true, beq_iff_eq] at h1
      obtain ⟨⟨rfl, rfl⟩, ht⟩ := h1
      obtain rfl := bytes_eq ht
      cases h2
      refine ⟨_, rfl, fun M ρ w args' ha _ _ => ?_⟩
      obtain rfl := opened M ρ w args' ha
      refine (P.codeset_Convert.calls 2 3 _ _ _ _ w conv_1).mono ?_
      rintro e w' ⟨rfl, hb⟩
      exact ⟨_, rfl, hb, tup _ _ _ _ _ _⟩
    | false =>
      rw [h1] at h2
      cases h3 : (a == 3 && b == 1 && t.data.toList == [97, 195, 164]) with
      | true =>
        rw [h3] at h2
        simp only [Bool.and_eq_true, beq_iff_eq] at h3
        obtain ⟨⟨rfl, rfl⟩, ht⟩ := h3
        obtain rfl := bytes_eq ht
        cases h2
        refine ⟨_, rfl, fun M ρ w args' ha _ _ => ?_⟩
        obtain rfl := opened M ρ w args' ha
        refine (P.codeset_Convert.calls 3 1 _ _ _ _ w conv_2).mono ?_
        rintro e w' ⟨rfl, hb⟩
        exact ⟨_, rfl, hb, tup _ _ _ _ _ _⟩
      | false => rw [h3] at h2; cases h2
theorem alloc_cell {w : World} {cs : Array Value} {T : TypeId} (j : Nat) : (w.alloc (.cells cs T)).cell? ⟨w.heap.size, j, none⟩ = cs[j]? := by
  rw [cell_of_heap (cs := cs) (T := T) (by simp only [World.alloc, Array.getElem?_push, if_true]; rfl)]
theorem alloc_below (w : World) (o : Obj) : Below w.heap.size w (w.alloc o) := (Below.refl _ w).alloc (Nat.le_refl _) o
theorem vrel_strs {M : Nat → Nat → Prop} {ρ : Nat → Option Nat} {w : World} {b n c : Nat} {L : List ByteArray} (hn : L.length = n) (hc : n ≤ c) (h : ∀ i x, L[i]? = some x → w.cell? ⟨b, i, none⟩ = some (.string x) ∧ ¬ M b i) :
    VRel M ρ w (.list true 1 (cstrs L)) (.slice (some ⟨b, 0, none⟩) n c) := by
  have hx : ∀ (i : Nat) (e : V), (cstrs L)[i]? = some e → ∃ x, L[i]? = some x ∧ e = .str x := by
    intro i e he
    unfold cstrs at he
    rw [List.getElem?_map] at he
    obtain ⟨x, h1, h2⟩ := Option.map_eq_some_iff.1 he
    exact ⟨x, h1, h2.symm⟩
  refine VRel.list 1 _ b 0 c (fun i j => .string (L.getD i ByteArray.empty)) n (by simp [hn, cstrs]) hc ?_ ?_ ?_ ?_
  · intro e he
    obtain ⟨x, _, rfl⟩ := List.mem_map.1 he
    rfl
  · intro e he
    obtain ⟨x, _, rfl⟩ := List.mem_map.1 he
    rfl
  · intro i e j x he hj
    obtain ⟨y, h1, rfl⟩ := hx i e he
    have hj0 : j = 0 := by
      cases j with
      | zero => rfl
      | succ j => simp [V.cells] at hj
    subst hj0
    have := h i y h1
    rw [show L.getD i ByteArray.empty = y by rw [List.getD_eq_getElem?_getD, h1]; rfl, Nat.mul_one, Nat.add_zero, Nat.zero_add]
    exact this
  · intro i e j x he hj
    obtain ⟨y, h1, rfl⟩ := hx i e he
    have hj0 : j = 0 := by
      cases j with
      | zero => rfl
      | succ j => simp [V.cells] at hj
    subst hj0
    simp only [V.cells, List.getElem?_cons_zero, Option.some.injEq] at hj
    subst hj
    rw [show L.getD i ByteArray.empty = y by rw [List.getD_eq_getElem?_getD, h1]; rfl]
    exact VRel.str _
theorem gSplit_ok [Inhabited MXI] : RecOkAt Tryd.prog HH 22 gSplit := given_below rfl fun args s out h => by
  match args, h with
  | [.str a, .str b], h =>
    have h2 : (if a.size < 4294967281 ∧ b = comma then some (Out.ret [.list true 1 (cstrs (pieces a))] s) else none) = some out := h
    clear h
    by_cases hc : a.size < 4294967281 ∧ b = comma
    · rw [if_pos hc] at h2
      obtain ⟨hs, rfl⟩ := hc
      cases h2
      refine ⟨_, rfl, fun M ρ w args' ha hM hgl => ?_⟩
      obtain ⟨l⟩ := args'
      match l, ha.1 with
      | [x, y], _ =>
        have hx := ha.2 0 _ x rfl rfl
        have hy := ha.2 1 _ y rfl rfl
        cases hx
        cases hy
        obtain ⟨f, _, hcell, hv⟩ := hgl 0 [V.int .i64 (default : MXI).m] rfl
        have hm : w.cell? ⟨0, 0, none⟩ = some (.int .i64 (default : MXI).m) := by
          have h1 := (hcell 0 _ rfl).1
          have h2 := hv 0 _ rfl
          rw [h1]
          generalize f 0 = z at h2
          cases h2
          rfl
        refine (Tryd.strings_Split a comma _ w hs hm (by decide)).mono ?_
        rintro e w' ⟨rfl, rfl⟩
        have hl : (pieces a).length = Lib.countB a comma + 1 := Lib.splitB_all comma (by decide) 0 _ a rfl
        refine ⟨_, rfl, alloc_below _ _, vrel_strs hl (Nat.le_refl _) fun i x hx => ⟨?_, fun hm => absurd (hM _ _ hm) (by omega)⟩⟩
        rw [alloc_cell]
        have hx : (Lib.splitB comma 0 (Lib.countB a comma) a)[i]? = some x := hx
        simp [hx]
    · rw [if_neg hc] at h2; cases h2
theorem strsOf_some : ∀ (es : List V) (xs : List ByteArray), strsOf es = some xs → es = cstrs xs
  | [], xs, h => by cases h; rfl
  | e :: es, xs, h => by
    cases e with
    | str a =>
      have h : (strsOf es).map (a :: ·) = some xs := h
      obtain ⟨ys, h1, rfl⟩ := Option.map_eq_some_iff.1 h
      rw [strsOf_some es ys h1]
      rfl
    | _ => cases h
theorem gJoin_ok [Inhabited MXI] : RecOkAt Tryd.prog HH 29 gJoin := given_below rfl fun args s out h => by
  match args, h with
  | [.list true 1 es, .str sep], h =>
    have h2 : (strsOf es).bind (fun xs => if xs.length ≤ 140737488355328 ∧ (Lib.join (xs.map (·.data.toList)) sep.data.toList).length ≤ 140737488355328 then some (Out.ret [.str ⟨(Lib.join (xs.map (·.data.toList)) sep.data.toList).toArray⟩] s) else none) = some out := h
    clear h
    obtain ⟨xs, hxs, h3⟩ := Option.bind_eq_some_iff.1 h2
    by_cases hc : xs.length ≤ 140737488355328 ∧ (Lib.join (xs.map (·.data.toList)) sep.data.toList).length ≤ 140737488355328
    · rw [if_pos hc] at h3
      cases h3
      refine ⟨_, rfl, fun M ρ w args' ha hM hgl => ?_⟩
      obtain rfl := strsOf_some es xs hxs
      obtain ⟨l⟩ := args'
      match l, ha.1 with
      | [x, y], _ =>
        have hx := ha.2 0 _ x rfl rfl
        have hy := ha.2 1 _ y rfl rfl
        cases hy
        cases hx with
        | list _ _ b o c f n hn hcap hk hg g1 g2 =>
        cases xs with
        | nil =>
          obtain rfl : n = 0 := by simpa [cstrs] using hn.symm
          refine (Tryd.strings_Join_none (some ⟨b, o, none⟩) c sep w).mono ?_
          rintro e w' ⟨rfl, rfl⟩
          exact ⟨_, rfl, Below.refl _ _, .str _⟩
        | cons z xs =>
          have hcells : ∀ (j : Nat) x, (z :: xs)[j]? = some x → w.cell? ⟨b, o + j, none⟩ = some (.string x) := by
            intro j x hj
            have he : (cstrs (z :: xs))[j]? = some (V.str x) := by unfold cstrs; rw [List.getElem?_map, hj]; rfl
            have c1 := (g1 j (V.str x) 0 (V.str x) he rfl).1
            have c2 := g2 j (V.str x) 0 (V.str x) he rfl
            rw [Nat.mul_one, Nat.add_zero] at c1
            rw [c1]
            generalize f j 0 = u at c2
            cases c2
            rfl
          obtain rfl : n = (z :: xs).length := by rw [← hn]; simp [cstrs]
          refine (Tryd.strings_Join b o c (z :: xs) sep w hcells (cell_lt (hcells 0 z rfl)) hc.1 hcap hc.2).mono ?_
          rintro e w' ⟨rfl, hb⟩
          exact ⟨_, rfl, hb, .str _⟩
    · rw [if_neg hc] at h3; cases h3
theorem RUN_rec [Inhabited MXI] : RecOk Tryd.prog HH RUN := run_rec hHH fun f g h => by
  unfold GG at h
  split at h
  · cases h; exact gConvert_ok
  · cases h; exact gSplit_ok
  · cases h; exact gJoin_ok
  · cases h
end Go.Proofs.YtphjfhglapkmhaaDoor.E
