/- It is proved that CodesetChosen answers true at every two sides: Valid, Choose, Common and Format of the program agree with the reference's, what is chosen is spoken by both or utf8, and Parse reads what Format writes; and the tied card. No condition beyond the row's own. -/
import Derived.Test.YtphjfhglapkmhaaDoorRows
import Derived.Test.YtphjfhglapkmhaaDoorCards
import Derived.Test.YtphjfhglapkmhaaDoorTie
import Derived.Test.YtphjfhglapkmhaaDoorQ
import Derived.Test.YtphjfhglapkmhaaDoorHO
import Derived.HandedShaped
import Derived.Shelf.Vars
import Derived.WalkKit
import Derived.ProofKit
import Derived.OpenShut
import Derived.ShutString
import Derived.ChangeOld
import Derived.Below
import Derived.SizedLaws
import Derived.ChangeSame
import Derived.ChangeSlices
import Derived.Lay
import Derived.SevenTiedAt
namespace Go.Proofs.YtphjfhglapkmhaaDoor.codesetChosen
open Go Go.ChangeShapes Go.WideShapes Go.ChangeAt Go.RowKit
set_option linter.unusedVariables false
theorem own : ownKnob Tryd.prog.godebug = none := by kernel_rfl
theorem laidOut : laidOutB Tryd.prog = true := by kernel_rfl
theorem cells26 : Tryd.prog.cellsOf 26 = 2 := by kernel_rfl
theorem cells3 : Tryd.prog.cellsOf 3 = 1 := by kernel_rfl
theorem cells24 : Tryd.prog.cellsOf 24 = 1 := by kernel_rfl
theorem types26 : Tryd.prog.cellTypes Tryd.prog.depth 26 = some [3, 24] := by kernel_rfl
/-- What a row of numbers is: none, or cells at an address. -/
def IsRow (k : IntKind) (w : World) (a : Option Addr) (len cap : Nat) (zs : List Int) : Prop :=
  (a = none ∧ len = 0 ∧ cap = 0 ∧ zs = []) ∨
  ∃ x, a = some x ∧ len ≤ cap ∧ cap ≤ maxLen ∧ zs.length = cap ∧ (∀ i, i < zs.length → w.cell? (x.add i) = some (.int k (zs.getD i 0))) ∧ ∀ n ∈ zs, (Lit.int k n).wf = true
set_option maxRecDepth 100000 in
/-- What a side speaks, opened; its row's address is a plain one. -/
theorem open_codes {H : Type} {enc : TypeId × Value → H} {W : World} {base : Nat} {v : Value} {d : DataW H} {p : List MemPlace}
    (hv : Value.okWide Tryd.prog W .any base 26 v) (h : DataW.Trod enc Tryd.prog W 0 (fun _ => true) true 26 v d p) :
    ∃ a A n c zs, v = .agg #[.int .i64 a, .slice A n c] ∧ IsRow .i64 W A n c zs ∧ ∀ x, A = some x → x.spot = none := by
  have hv0 := hv
  simp only [Value.okWide, Tryd.underlying26] at hv0
  obtain ⟨cs, rfl, hcs, ts, hts, _, hall⟩ := hv0
  rw [types26] at hts
  obtain rfl := Option.some.inj hts
  rw [cells26] at hcs
  obtain ⟨x0, x1, rfl⟩ : ∃ x0 x1, cs = #[x0, x1] := by
    obtain ⟨l⟩ := cs
    match l, hcs with
    | [x0, x1], _ => exact ⟨x0, x1, rfl⟩
  obtain ⟨u, hu, hok⟩ := hall 1 x1 rfl
  have hu' : u = 24 := by simpa using hu.symm
  subst hu'
  obtain ⟨fuel, hf⟩ := h
  obtain ⟨y0, y1, n, _, _, h0, h1⟩ := trod_struct2 Tryd.underlying26 hf
  simp only [Value.cells] at h0 h1
  rw [cells3] at h0
  rw [cells24] at h1
  obtain ⟨a, ha, _, _⟩ := DataW.trod_int Tryd.underlying3 h0
  have ha' : x0 = .int .i64 a := by simpa using ha
  subst ha'
  rcases open_ints Tryd.underlying24 Tryd.underlying3 cells3 h1 with ⟨hz, _⟩ | ⟨x, l, c, zs, hz, _, hl, hm, hlen, _, hcell, hwz⟩
  · have e : x1 = .slice none 0 0 := by simpa using hz
    subst e
    exact ⟨a, none, 0, 0, [], rfl, .inl ⟨rfl, rfl, rfl, rfl⟩, fun x h => by cases h⟩
  · have e : x1 = .slice (some x) l c := by simpa using hz
    subst e
    refine ⟨a, some x, l, c, zs, rfl, .inr ⟨x, rfl, hl, hm, by simpa using hlen, hcell, hwz⟩, ?_⟩
    intro y hy
    obtain rfl := Option.some.inj hy
    simp only [Cell.okWide, Cell.ok, Tryd.underlying24] at hok
    exact hok.2.2.2.1
open E in
/-- What an opened side is for the evaluator. -/
theorem rel_codes {W : World} {a : Int} {A : Option Addr} {n c : Nat} {zs : List Int} (h : IsRow .i64 W A n c zs) (hs : ∀ x, A = some x → x.spot = none) :
    ∃ m L, VRel (Mut M0 own0) own0.rho W (.agg [.int .i64 a, .list m 1 (ints L)]) (.agg #[.int .i64 a, .slice A n c]) := by
  have key : ∃ m L, VRel (Mut M0 own0) own0.rho W (.list m 1 (ints L)) (.slice A n c) := by
    rcases h with ⟨rfl, rfl, rfl, rfl⟩ | ⟨x, rfl, hl, _, hlen, hcell, _⟩
    · exact ⟨false, [], .nillist 1⟩
    · obtain ⟨b, o, spot⟩ := x
      obtain rfl : spot = none := hs _ rfl
      refine ⟨true, zs.take n, vrel_ints (by simp; omega) hl ?_⟩
      intro i x hx
      rw [List.getElem?_take] at hx
      split at hx
      · obtain ⟨hi, hx'⟩ := List.getElem?_eq_some_iff.1 hx
        have := hcell i hi
        rw [List.getD_eq_getElem?_getD, hx] at this
        exact ⟨by rw [← Go.WideShapes.add_plain]; exact this, no_mut0 _ _⟩
      · cases hx
  obtain ⟨m, L, hr⟩ := key
  refine ⟨m, L, VRel.agg _ _ rfl rfl ?_⟩
  intro j x y hx hy
  match j, hx, hy with
  | 0, hx, hy => cases hx; cases hy; exact .int _ _
  | 1, hx, hy => cases hx; cases hy; exact hr
  | k + 2, hx, hy => simp at hx
open E in
/-- A run without objects, at an untouched world whose variable 0 holds a number. -/
theorem walked {W : World} {a b : Int} {A B : Option Addr} {n c n' c' : Nat} {zs ys : List Int} (h : IsRow .i64 W A n c zs) (hs : ∀ x, A = some x → x.spot = none) (g : IsRow .i64 W B n' c' ys) (gs : ∀ x, B = some x → x.spot = none) (hm : ∃ m, W.cell? ⟨0, 0, none⟩ = some (.int .i64 m)) : Calls Tryd.prog 4 #[.agg #[.int .i64 a, .slice A n c], .agg #[.int .i64 b, .slice B n' c']] W fun e w' => e = .returned (.bool true) ∧ Below W.heap.size W w' := by
  obtain ⟨m, hm⟩ := hm
  letI : Inhabited MXI := ⟨⟨m⟩⟩
  have hgl : Glob (HH : Hints) (Mut M0 own0) own0.rho W := by
    intro g cs h
    have h : (bif Nat.beq g 0 then some [V.int .i64 (default : MXI).m] else none) = some cs := h
    cases e : Nat.beq g 0 with
    | false => rw [e] at h; cases h
    | true =>
      obtain rfl := Nat.eq_of_beq_eq_true e
      rw [e] at h
      cases h
      refine ⟨fun _ => .int .i64 m, rfl, ?_, ?_⟩
      · intro j x hx
        match j, hx with
        | 0, _ => exact ⟨hm, no_mut0 _ _⟩
      · intro j x hx
        match j, hx with
        | 0, hx => cases hx; exact .int _ _
  obtain ⟨m1, L1, r1⟩ := rel_codes (a := a) h hs
  obtain ⟨m2, L2, r2⟩ := rel_codes (a := b) g gs
  refine (RUN_rec 4 _ [] (.ret [.bool true] []) (chosen_is a m1 L1 b m2 L2) M0 own0 W _ (sr0 W) (fun _ _ => rfl) (fun b x h => h.elim) ⟨rfl, ?_⟩ hgl).mono ?_
  · intro j v x hv hx
    match j, hv, hx with
    | 0, hv, hx => cases hv; cases hx; exact r1
    | 1, hv, hx => cases hv; cases hx; exact r2
    | k + 2, hv, hx => simp at hv
  · rintro e w' ⟨own', v', rfl, hp, hv, _⟩
    have : v' = .bool true := by
      have hv : VRel (Mut M0 own') own'.rho w' (.bool true) v' := hv
      cases hv
      rfl
    subst this
    exact ⟨rfl, below0 hp⟩
set_option maxRecDepth 100000 in
theorem lifted (os : Os) (started : os.Started) (H : Type) (enc : TypeId × Value → H) :
    ReturnsInHanded {} Tryd.checked os 4 .any (fun w args => (Rows.codesetChosenSpec.pre enc Tryd.prog Tryd.f4 [] false w args ∧ laidMetH Tryd.prog Rows.codesetChosenRow.laid w) ∧ sizedMet enc Tryd.prog Tryd.f4 (OpenSpec.ofChange Rows.codesetChosenSpec) false w args)
      (Rows.codesetChosenSpec.post enc Tryd.prog Tryd.f4 false true false false) := by
  refine returnsInHanded_of_calls (C := Tryd.checked) own started (by kernel_rfl)
    (ChangeSpec.witness_shaped (enc := enc) (C := Tryd.checked) (os := os) (X := fun w _ => laidMetH Tryd.prog Rows.codesetChosenRow.laid w) false (World.laidAll Tryd.prog os Rows.codesetChosenRow.laid) #[.agg #[.int .i64 0, .slice none 0 0], .agg #[.int .i64 0, .slice none 0 0]] 8 (World.laidAll_os _ _ _)
      (World.shaped_of_ZipB (by kernel_rfl) (by kernel_rfl)) (by kernel_rfl) (by kernel_rfl) (by kernel_rfl)
      (by rw [MakeChecks.laidMetH_plain _ _ _ (by kernel_rfl)]; exact laidMet_laidAll _ (by kernel_rfl) (by kernel_rfl))) ?_
  intro w tape i _ hsh _ hok hpre _
  obtain ⟨_, _, _, fn', hfn', _, _, _, _, hval1⟩ := hok
  obtain rfl : fn' = Tryd.f4 := Option.some.inj (hfn'.symm.trans Tryd.func4)
  obtain ⟨⟨⟨ds, gs, before, hw, _⟩, _⟩, _⟩ := hpre
  have hW := DataW.Whole.of_heap (w' := w.forCall tape i) (by rfl) hw
  suffices hc : Calls Tryd.prog 4 i.args (w.forCall tape i) fun e W' => ∃ v, e = .returned v ∧ Rows.codesetChosenSpec.post enc Tryd.prog Tryd.f4 false true false false (w.forCall tape i) i.args v W' by
    refine hc.mono fun e W' ⟨v, he, hp⟩ => ?_
    subst he
    exact ChangeSpec.post_blind hp
  have hval0 := hval1
  clear hval1 hw
  generalize w.forCall tape i = W at hW hsh hval0 ⊢
  generalize i.args = args at hW hval0 ⊢
  have hval : ∀ (j : Nat) t v, Tryd.f4.params[j]? = some t → args[j]? = some v → Value.okWide Tryd.prog W .any w.heap.size t v := hval0
  have hW' := hW
  obtain ⟨p, q, hA0, hV, rfl, hfz, hnd⟩ := hW
  have hA : DataW.TrodAll enc Tryd.prog W 0 (fun _ => true) true Tryd.f4.params.toList args.toList ds p := hA0
  rw [Tryd.params4] at hA hval
  obtain ⟨v0, vs0, d0, ds0, p0, q0, hargs, rfl, rfl, h0, r0⟩ := trodAll_cons hA
  obtain ⟨v1, vs1, d1, ds1, p1, q1, rfl, rfl, rfl, h1, r1⟩ := trodAll_cons r0
  obtain ⟨rfl, rfl, rfl⟩ := trodAll_nil r1
  obtain rfl : args = #[v0, v1] := by cases args; simp_all
  obtain ⟨rfl, rfl⟩ := trodVars_none hV
  have k0 := h0
  have k1 := h1
  have lt0 : ∀ x ∈ p0, x.block < W.heap.size := by obtain ⟨m, hm⟩ := k0; exact DataW.trod_lt m _ _ _ hm
  have lt1 : ∀ x ∈ p1, x.block < W.heap.size := by obtain ⟨m, hm⟩ := k1; exact DataW.trod_lt m _ _ _ hm
  obtain ⟨a0, A0, n0, c0, z0, rfl, w0, s0⟩ := open_codes (hval 0 26 v0 rfl rfl) h0
  obtain ⟨a1, A1, n1, c1, z1, rfl, w1, s1⟩ := open_codes (hval 1 26 v1 rfl rfl) h1
  clear hA0 hval0
  refine (walked w0 s0 w1 s1 (cell_of_shapedOpen_int (t := 3) (zero := #[.int .i64 0]) hsh (of_decide_eq_true (by kernel_rfl)) (by kernel_rfl) rfl (by kernel_rfl) (by kernel_rfl) (by kernel_rfl))).mono fun e W' ⟨he, bel⟩ => ?_
  subst he
  exact ⟨_, rfl, _, _, _, [], _, [], hW', trodAll_mk1 (shut_bool Tryd.underlying4 _), (trodAll_cons_mk (Below.trod laidOut (by kernel_rfl) (of_decide_eq_true (by kernel_rfl)) k0 bel lt0) (trodAll_cons_mk (Below.trod laidOut (by kernel_rfl) (of_decide_eq_true (by kernel_rfl)) k1 bel lt1) trodAll_mk0)), rfl, bel.frame _, fun h => by cases h⟩
theorem over : Rows.codesetChosenRow.holds Tryd.pinned (OpenSpec.ofChange Rows.codesetChosenSpec) :=
  OpenClaim.holds_of_wide 4 Tryd.f4 rfl rfl rfl rfl rfl rfl rfl ⟨rfl, rfl, rfl, rfl, rfl⟩ rfl rfl rfl rfl rfl (by kernel_rfl) Tryd.func4 (by kernel_rfl)
    (of_decide_eq_true (by kernel_rfl)) (by unfold Func.isWrapper; first | (rw [if_pos (by decide +kernel)]; kernel_rfl) | (rw [if_neg (by decide +kernel)]; exact ⟨rfl, rfl⟩))
    (fun os started H enc _ => lifted os started H enc)
theorem proved : Rows.CodesetChosenSaid := over
#print axioms proved
theorem card_holds : Rows.CodesetChosenCardSaid :=
  Claim7.holds_tied_plain_at .later [] [.data, .pinned] true (true, "b259492463b7474b0b0bf81ccd3b12b50f7f7e0df54445d1fdbbe9c2308a9ea7") false
    proved (fun _ h => by cases h) (by kernel_rfl) (fun _ h => by cases h) codesetChosen_row_tie rfl ⟨rfl, rfl⟩ (by kernel_rfl) rfl
    (fun f fn hf hfn => by
      obtain rfl : f = 4 := Option.some.inj ((show Tryd.prog.funcNamed "intermede/intermedelaw12.CodesetChosen" = some 4 by kernel_rfl).symm.trans hf) |>.symm
      obtain rfl : fn = Tryd.f4 := (Option.some.inj (Tryd.func4.symm.trans hfn)).symm
      exact ⟨by kernel_rfl, fun j t ht => by
        rw [Tryd.params4] at ht
        have hm : t ∈ [26] := by simpa using Array.mem_of_getElem? ht
        have hall : ([26].all fun u => !Tryd.prog.wantsStandIn u) = true := by kernel_rfl
        exact (show Tryd.prog.wantsStandIn t = false by simpa using List.all_eq_true.1 hall t hm)⟩)
    (by kernel_rfl)
end Go.Proofs.YtphjfhglapkmhaaDoor.codesetChosen
namespace Go.Proofs.YtphjfhglapkmhaaDoor
/-- The card, under a short name, for the claim. -/
theorem codesetChosen_card : Rows.CodesetChosenCardSaid := codesetChosen.card_holds
end Go.Proofs.YtphjfhglapkmhaaDoor
