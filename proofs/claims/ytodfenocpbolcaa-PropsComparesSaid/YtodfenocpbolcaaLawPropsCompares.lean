/- It is proved that PropsCompares answers true at every input: of any two raw properties ValidProp and Compare of the program agree with the reference's. No condition beyond the row's own. -/
import Derived.Test.YtodfenocpbolcaaRows
import Derived.Test.YtodfenocpbolcaaR
import Derived.Test.YtodfenocpbolcaaHO
import Derived.Test.YtodfenocpbolcaaBR
import Derived.WalkKit
import Derived.ProofKit
import Derived.OpenShut
import Derived.ShutString
import Derived.ChangeOld
import Derived.ChangeSame
import Derived.ChangeSlices
import Derived.Below
import Derived.SizedLaws
namespace Go.Proofs.Ytodfenocpbolcaa.propsCompares
open Go Go.ChangeShapes Go.WideShapes Go.ChangeAt Go.RowKit
set_option linter.unusedVariables false
theorem own : ownKnob Try.prog.godebug = none := by kernel_rfl
theorem laidOut : laidOutB Try.prog = true := by kernel_rfl
theorem cells24 : Try.prog.cellsOf 24 = 5 := by kernel_rfl
theorem cells3 : Try.prog.cellsOf 3 = 1 := by kernel_rfl
theorem cells9 : Try.prog.cellsOf 9 = 1 := by kernel_rfl
theorem cells22 : Try.prog.cellsOf 22 = 1 := by kernel_rfl
theorem types24 : Try.prog.cellTypes Try.prog.depth 24 = some [9, 3, 3, 9, 22] := by kernel_rfl
/-- What a row of numbers is: none, or cells at an address. -/
def IsRow (k : IntKind) (w : World) (a : Option Addr) (len cap : Nat) (zs : List Int) : Prop :=
  (a = none ∧ len = 0 ∧ cap = 0 ∧ zs = []) ∨
  ∃ x, a = some x ∧ len ≤ cap ∧ cap ≤ maxLen ∧ zs.length = cap ∧ (∀ i, i < zs.length → w.cell? (x.add i) = some (.int k (zs.getD i 0))) ∧ ∀ n ∈ zs, (Lit.int k n).wf = true
set_option maxRecDepth 100000 in
/-- A property, opened; its row's address is a plain one. -/
theorem open_prop {H : Type} {enc : TypeId × Value → H} {W : World} {base : Nat} {v : Value} {d : DataW H} {p : List MemPlace}
    (hv : Value.okWide Try.prog W .any base 24 v) (h : DataW.Trod enc Try.prog W 0 (fun _ => true) true 24 v d p) :
    ∃ a0 a1 a2 a3 A n c zs, v = .agg #[.string a0, .int .i64 a1, .int .i64 a2, .string a3, .slice A n c] ∧ IsRow .i64 W A n c zs ∧ ∀ x, A = some x → x.spot = none := by
  have hv0 := hv
  simp only [Value.okWide, Try.underlying24] at hv0
  obtain ⟨cs, rfl, hcs, ts, hts, _, hall⟩ := hv0
  rw [types24] at hts
  obtain rfl := Option.some.inj hts
  rw [cells24] at hcs
  obtain ⟨x0, x1, x2, x3, x4, rfl⟩ : ∃ x0 x1 x2 x3 x4, cs = #[x0, x1, x2, x3, x4] := by
    obtain ⟨l⟩ := cs
    match l, hcs with
    | [x0, x1, x2, x3, x4], _ => exact ⟨x0, x1, x2, x3, x4, rfl⟩
  obtain ⟨u, hu, hok⟩ := hall 4 x4 rfl
  have hu' : u = 22 := by simpa using hu.symm
  subst hu'
  obtain ⟨fuel, hf⟩ := h
  obtain ⟨xs, n, _, _, _, hlen, hfs⟩ := DataW.trod_struct Try.underlying24 hf
  simp only [Value.cells] at hfs
  match xs, hlen with
  | [y0, y1, y2, y3, y4], _ =>
    have h0 := hfs 0 { name := "Name", type := 9, offset := 0, embedded := false, tag := "", pkgPath := "", byteOffset := 0 } rfl
    have h1 := hfs 1 { name := "Kind", type := 3, offset := 1, embedded := false, tag := "", pkgPath := "", byteOffset := 16 } rfl
    have h2 := hfs 2 { name := "N", type := 3, offset := 2, embedded := false, tag := "", pkgPath := "", byteOffset := 24 } rfl
    have h3 := hfs 3 { name := "S", type := 9, offset := 3, embedded := false, tag := "", pkgPath := "", byteOffset := 32 } rfl
    have h4 := hfs 4 { name := "L", type := 22, offset := 4, embedded := false, tag := "", pkgPath := "", byteOffset := 48 } rfl
    simp only [cells3, cells9, cells22, List.getElem?_cons_zero, List.getElem?_cons_succ] at h0 h1 h2 h3 h4
    obtain ⟨a0, e0, _⟩ := DataW.trod_string Try.underlying9 h0
    obtain ⟨a1, e1, _, _⟩ := DataW.trod_int Try.underlying3 h1
    obtain ⟨a2, e2, _, _⟩ := DataW.trod_int Try.underlying3 h2
    obtain ⟨a3, e3, _⟩ := DataW.trod_string Try.underlying9 h3
    have f0 : x0 = .string a0 := by simpa using e0
    have f1 : x1 = .int .i64 a1 := by simpa using e1
    have f2 : x2 = .int .i64 a2 := by simpa using e2
    have f3 : x3 = .string a3 := by simpa using e3
    subst f0; subst f1; subst f2; subst f3
    rcases open_ints Try.underlying22 Try.underlying3 cells3 h4 with ⟨hz, _⟩ | ⟨x, l, c, zs, hz, _, hl, hm, hlen, _, hcell, hwz⟩
    · have e : x4 = .slice none 0 0 := by simpa using hz
      subst e
      exact ⟨a0, a1, a2, a3, none, 0, 0, [], rfl, .inl ⟨rfl, rfl, rfl, rfl⟩, fun x h => by cases h⟩
    · have e : x4 = .slice (some x) l c := by simpa using hz
      subst e
      refine ⟨a0, a1, a2, a3, some x, l, c, zs, rfl, .inr ⟨x, rfl, hl, hm, by simpa using hlen, hcell, hwz⟩, ?_⟩
      intro y hy
      obtain rfl := Option.some.inj hy
      simp only [Cell.okWide, Cell.ok, Try.underlying22] at hok
      exact hok.2.2.2.1
open E in
/-- An opened property is one of the engine's. -/
theorem rel_prop {W : World} {a0 a3 : ByteArray} {a1 a2 : Int} {A : Option Addr} {n c : Nat} {zs : List Int} (h : IsRow .i64 W A n c zs) (hs : ∀ x, A = some x → x.spot = none) :
    ∃ m L, VRel (Mut M0 own0) own0.rho W (propV a0 a1 a2 a3 m L) (.agg #[.string a0, .int .i64 a1, .int .i64 a2, .string a3, .slice A n c]) := by
  have key : ∃ m L, VRel (Mut M0 own0) own0.rho W (.list m 1 (ints L)) (.slice A n c) ∧ goods (V.list m 1 (ints L)).cells = true := by
    rcases h with ⟨rfl, rfl, rfl, rfl⟩ | ⟨x, rfl, hl, _, hlen, hcell, _⟩
    · exact ⟨false, [], .nillist 1, rfl⟩
    · obtain ⟨b, o, spot⟩ := x
      obtain rfl : spot = none := hs _ rfl
      refine ⟨true, zs.take n, vrel_ints (by simp; omega) hl ?_, rfl⟩
      intro i x hx
      rw [List.getElem?_take] at hx
      split at hx
      · obtain ⟨hi, hx'⟩ := List.getElem?_eq_some_iff.1 hx
        have := hcell i hi
        rw [List.getD_eq_getElem?_getD, hx] at this
        exact ⟨by rw [← Go.WideShapes.add_plain]; exact this, no_mut0 _ _⟩
      · cases hx
  obtain ⟨m, L, hr, hg⟩ := key
  refine ⟨m, L, VRel.agg _ _ rfl rfl ?_⟩
  intro j x y hx hy
  match j, hx, hy with
  | 0, hx, hy => cases hx; cases hy; exact .str _
  | 1, hx, hy => cases hx; cases hy; exact .int _ _
  | 2, hx, hy => cases hx; cases hy; exact .int _ _
  | 3, hx, hy => cases hx; cases hy; exact .str _
  | 4, hx, hy => cases hx; cases hy; exact hr
  | k + 5, hx, hy => simp [propV] at hx

open E in
/-- The law's run, at opened arguments. -/
theorem walked {W : World} {a0 a3 b0 b3 : ByteArray} {a1 a2 b1 b2 : Int} {A B : Option Addr} {n c m d : Nat} {zs ys : List Int} (h : IsRow .i64 W A n c zs) (hs : ∀ x, A = some x → x.spot = none)
    (g : IsRow .i64 W B m d ys) (gs : ∀ x, B = some x → x.spot = none) :
    Calls Try.prog 3 #[.agg #[.string a0, .int .i64 a1, .int .i64 a2, .string a3, .slice A n c], .agg #[.string b0, .int .i64 b1, .int .i64 b2, .string b3, .slice B m d]] W fun e w' => e = .returned (.bool true) ∧ Below W.heap.size W w' := by
  obtain ⟨m1, L1, r1⟩ := rel_prop (a0 := a0) (a1 := a1) (a2 := a2) (a3 := a3) h hs
  obtain ⟨m2, L2, r2⟩ := rel_prop (a0 := b0) (a1 := b1) (a2 := b2) (a3 := b3) g gs
  refine (calls0 RUN_rec (fun g => rfl) (law_is a0 a1 a2 a3 m1 L1 b0 b1 b2 b3 m2 L2) (w := W) ⟨rfl, ?_⟩).mono ?_
  · intro j v x hv hx
    match j, hv, hx with
    | 0, hv, hx => cases hv; cases hx; exact r1
    | 1, hv, hx => cases hv; cases hx; exact r2
    | k + 2, hv, hx => simp at hv
  · rintro e w' ⟨own', v', rfl, hp, hv⟩
    have : v' = .bool true := by
      simp only [one] at hv
      cases hv
      rfl
    subst this
    exact ⟨rfl, below0 hp⟩
set_option maxRecDepth 100000 in
theorem lifted (os : Os) (started : os.Started) (H : Type) (enc : TypeId × Value → H) :
    ReturnsInHanded {} Try.checked os 3 .any (Rows.propsComparesSpec.pre6 enc Try.prog Try.f3 Rows.propsComparesRow.domain false) (Rows.propsComparesSpec.post enc Try.prog Try.f3 false true false false) := by
  refine returnsInHanded_of_change_sized (C := Try.checked) own started (by kernel_rfl) Try.func3
    (ChangeSpec.witness6 (enc := enc) (C := Try.checked) false ⟨#[], #[.agg #[.string ByteArray.empty, .int .i64 0, .int .i64 0, .string ByteArray.empty, .slice none 0 0], .agg #[.string ByteArray.empty, .int .i64 0, .int .i64 0, .string ByteArray.empty, .slice none 0 0]], []⟩ 8 (by kernel_rfl) (by kernel_rfl) (by kernel_rfl) (by kernel_rfl)) ?_
  intro W base args ds gs before hval0 hW hcnd hsz0 _
  have hsz : (DataW.weightsEach Try.prog (Try.f3.params.toList ++ Rows.propsComparesSpec.plain.varTypes Try.prog) (ds ++ gs)).all (· ≤ reachBytes) = true := hsz0
  have hval : ∀ (j : Nat) t v, Try.f3.params[j]? = some t → args[j]? = some v → Value.okWide Try.prog W .any base t v := hval0
  have hW' := hW
  obtain ⟨p, q, hA0, hV, rfl, hfz, hnd⟩ := hW
  have hA : DataW.TrodAll enc Try.prog W 0 (fun _ => true) true Try.f3.params.toList args.toList ds p := hA0
  rw [Try.params3] at hA hval hsz
  obtain ⟨v0, vs0, d0, ds0, p0, q0, hargs, rfl, rfl, h0, r0⟩ := trodAll_cons hA
  obtain ⟨v1, vs1, d1, ds1, p1, q1, rfl, rfl, rfl, h1, r1⟩ := trodAll_cons r0
  obtain ⟨rfl, rfl, rfl⟩ := trodAll_nil r1
  obtain rfl : args = #[v0, v1] := by cases args; simp_all
  obtain ⟨rfl, rfl⟩ := trodVars_none hV
  have k0 := h0
  have k1 := h1
  have lt0 : ∀ x ∈ p0, x.block < W.heap.size := by obtain ⟨m, hm⟩ := k0; exact DataW.trod_lt m _ _ _ hm
  have lt1 : ∀ x ∈ p1, x.block < W.heap.size := by obtain ⟨m, hm⟩ := k1; exact DataW.trod_lt m _ _ _ hm
  obtain ⟨a0, a1, a2, a3, A, n, c, z0, rfl, w0, s0⟩ := open_prop (hval 0 24 v0 rfl rfl) h0
  obtain ⟨b0, b1, b2, b3, B, m, d, z1, rfl, w1, s1⟩ := open_prop (hval 1 24 v1 rfl rfl) h1
  clear hA0 hval0 hsz0 hsz
  refine (walked w0 s0 w1 s1).mono ?_
  rintro e W' ⟨rfl, bel⟩
  exact ⟨_, rfl, _, _, _, [], _, [], hW', trodAll_mk1 (shut_bool Try.underlying4 _), (trodAll_cons_mk (Below.trod laidOut (by kernel_rfl) (of_decide_eq_true (by kernel_rfl)) k0 bel lt0) (trodAll_cons_mk (Below.trod laidOut (by kernel_rfl) (of_decide_eq_true (by kernel_rfl)) k1 bel lt1) trodAll_mk0)), rfl, bel.frame _, fun h => by cases h⟩
theorem over : Rows.propsComparesRow.holds Try.pinned (OpenSpec.ofChange Rows.propsComparesSpec) :=
  OpenClaim.holds_of_wide 3 Try.f3 rfl rfl rfl rfl rfl rfl rfl ⟨rfl, rfl, rfl, rfl, rfl⟩ rfl rfl rfl rfl rfl (by kernel_rfl) Try.func3 (by kernel_rfl)
    (of_decide_eq_true (by kernel_rfl)) (by unfold Func.isWrapper; first | (rw [if_pos (by decide +kernel)]; kernel_rfl) | (rw [if_neg (by decide +kernel)]; exact ⟨rfl, rfl⟩))
    (fun os started H enc _ => lifted os started H enc)
theorem proved : Rows.PropsComparesSaid := over
#print axioms proved
end Go.Proofs.Ytodfenocpbolcaa.propsCompares
namespace Go.Proofs.Ytodfenocpbolcaa
/-- The row, under a short name, for the claim. -/
theorem propsCompares_holds : Rows.PropsComparesSaid := propsCompares.proved
end Go.Proofs.Ytodfenocpbolcaa
