/- It is proved that CodesetParses answers true at every text: Parse and Set of the program agree with the reference's; and the tied card. No condition beyond the row's own. -/
import Derived.Test.YtphjfhglapkmhaaDoorRows
import Derived.Test.YtphjfhglapkmhaaDoorCards
import Derived.Test.YtphjfhglapkmhaaDoorTie
import Derived.Test.YtphjfhglapkmhaaDoorQ
import Derived.Test.YtphjfhglapkmhaaDoorHO
import Derived.HandedShaped
import Derived.Shelf.Vars
import Derived.WalkKit
import Derived.ProofKit
import Derived.OpenShut
import Derived.ShutString
import Derived.ChangeOld
import Derived.Below
import Derived.SizedLaws
import Derived.Lay
import Derived.SevenTiedAt
namespace Go.Proofs.YtphjfhglapkmhaaDoor.codesetParses
open Go Go.ChangeShapes Go.WideShapes Go.ChangeAt Go.RowKit
open Go.ChangeMaps (open_string shut_string)
set_option linter.unusedVariables false
theorem own : ownKnob Tryd.prog.godebug = none := by kernel_rfl
open E in
/-- A run without objects, at an untouched world whose variable 0 holds a number. -/
theorem walked {W : World} (a : ByteArray) (hm : ∃ m, W.cell? ⟨0, 0, none⟩ = some (.int .i64 m)) : Calls Tryd.prog 3 #[.string a] W fun e w' => e = .returned (.bool true) ∧ Below W.heap.size W w' := by
  obtain ⟨m, hm⟩ := hm
  letI : Inhabited MXI := ⟨⟨m⟩⟩
  have hgl : Glob (HH : Hints) (Mut M0 own0) own0.rho W := by
    intro g cs h
    have h : (bif Nat.beq g 0 then some [V.int .i64 (default : MXI).m] else none) = some cs := h
    cases e : Nat.beq g 0 with
    | false => rw [e] at h; cases h
    | true =>
      obtain rfl := Nat.eq_of_beq_eq_true e
      rw [e] at h
      cases h
      refine ⟨fun _ => .int .i64 m, rfl, ?_, ?_⟩
      · intro j x hx
        match j, hx with
        | 0, _ => exact ⟨hm, no_mut0 _ _⟩
      · intro j x hx
        match j, hx with
        | 0, hx => cases hx; exact .int _ _
  refine (RUN_rec 3 [.str a] [] (.ret [.bool true] []) (parses_is a) M0 own0 W #[.string a] (sr0 W) (fun _ _ => rfl) (fun b x h => h.elim) ⟨rfl, ?_⟩ hgl).mono ?_
  · intro j v x hv hx
    match j, hv, hx with
    | 0, hv, hx => cases hv; cases hx; exact .str _
  · rintro e w' ⟨own', v', rfl, hp, hv, _⟩
    have : v' = .bool true := by
      have hv : VRel (Mut M0 own') own'.rho w' (.bool true) v' := hv
      cases hv
      rfl
    subst this
    exact ⟨rfl, below0 hp⟩
set_option maxRecDepth 100000 in
theorem lifted (os : Os) (started : os.Started) (H : Type) (enc : TypeId × Value → H) :
    ReturnsInHanded {} Tryd.checked os 3 .any (fun w args => (Rows.codesetParsesSpec.pre enc Tryd.prog Tryd.f3 [] false w args ∧ laidMetH Tryd.prog Rows.codesetParsesRow.laid w) ∧ sizedMet enc Tryd.prog Tryd.f3 (OpenSpec.ofChange Rows.codesetParsesSpec) false w args)
      (Rows.codesetParsesSpec.post enc Tryd.prog Tryd.f3 false true false false) := by
  refine returnsInHanded_of_calls (C := Tryd.checked) own started (by kernel_rfl)
    (ChangeSpec.witness_shaped (enc := enc) (C := Tryd.checked) (os := os) (X := fun w _ => laidMetH Tryd.prog Rows.codesetParsesRow.laid w) false (World.laidAll Tryd.prog os Rows.codesetParsesRow.laid) #[.string ByteArray.empty] 8 (World.laidAll_os _ _ _)
      (World.shaped_of_ZipB (by kernel_rfl) (by kernel_rfl)) (by kernel_rfl) (by kernel_rfl) (by kernel_rfl)
      (by rw [MakeChecks.laidMetH_plain _ _ _ (by kernel_rfl)]; exact laidMet_laidAll _ (by kernel_rfl) (by kernel_rfl))) ?_
  intro w tape i _ hsh _ hok hpre _
  obtain ⟨_, _, _, fn', hfn', _, _, _, _, hval1⟩ := hok
  obtain rfl : fn' = Tryd.f3 := Option.some.inj (hfn'.symm.trans Tryd.func3)
  obtain ⟨⟨⟨ds, gs, before, hw, _⟩, _⟩, _⟩ := hpre
  have hW := DataW.Whole.of_heap (w' := w.forCall tape i) (by rfl) hw
  suffices hc : Calls Tryd.prog 3 i.args (w.forCall tape i) fun e W' => ∃ v, e = .returned v ∧ Rows.codesetParsesSpec.post enc Tryd.prog Tryd.f3 false true false false (w.forCall tape i) i.args v W' by
    refine hc.mono fun e W' ⟨v, he, hp⟩ => ?_
    subst he
    exact ChangeSpec.post_blind hp
  have hval0 := hval1
  clear hval1 hw
  generalize w.forCall tape i = W at hW hsh hval0 ⊢
  generalize i.args = args at hW hval0 ⊢
  have hval : ∀ (j : Nat) t v, Tryd.f3.params[j]? = some t → args[j]? = some v → Value.okWide Tryd.prog W .any w.heap.size t v := hval0
  have hW' := hW
  obtain ⟨p, q, hA0, hV, rfl, hfz, hnd⟩ := hW
  have hA : DataW.TrodAll enc Tryd.prog W 0 (fun _ => true) true Tryd.f3.params.toList args.toList ds p := hA0
  rw [Tryd.params3] at hA hval
  obtain ⟨v0, vs0, d0, ds0, p0, q0, hargs, rfl, rfl, h0, r0⟩ := trodAll_cons hA
  obtain ⟨rfl, rfl, rfl⟩ := trodAll_nil r0
  obtain rfl : args = #[v0] := by cases args; simp_all
  obtain ⟨rfl, rfl⟩ := trodVars_none hV
  obtain ⟨a0, rfl, rfl, rfl, y0⟩ := open_string Tryd.underlying9 (hval 0 9 v0 rfl rfl) h0
  clear hA0 hval0
  refine (walked a0 (cell_of_shapedOpen_int (t := 3) (zero := #[.int .i64 0]) hsh (of_decide_eq_true (by kernel_rfl)) (by kernel_rfl) rfl (by kernel_rfl) (by kernel_rfl) (by kernel_rfl))).mono fun e W' ⟨he, bel⟩ => ?_
  subst he
  exact ⟨_, rfl, _, _, _, [], _, [], hW', trodAll_mk1 (shut_bool Tryd.underlying4 _), (trodAll_cons_mk (shut_string Tryd.underlying9 y0) trodAll_mk0), rfl, bel.frame _, fun h => by cases h⟩
theorem over : Rows.codesetParsesRow.holds Tryd.pinned (OpenSpec.ofChange Rows.codesetParsesSpec) :=
  OpenClaim.holds_of_wide 3 Tryd.f3 rfl rfl rfl rfl rfl rfl rfl ⟨rfl, rfl, rfl, rfl, rfl⟩ rfl rfl rfl rfl rfl (by kernel_rfl) Tryd.func3 (by kernel_rfl)
    (of_decide_eq_true (by kernel_rfl)) (by unfold Func.isWrapper; first | (rw [if_pos (by decide +kernel)]; kernel_rfl) | (rw [if_neg (by decide +kernel)]; exact ⟨rfl, rfl⟩))
    (fun os started H enc _ => lifted os started H enc)
theorem proved : Rows.CodesetParsesSaid := over
#print axioms proved
theorem card_holds : Rows.CodesetParsesCardSaid :=
  Claim7.holds_tied_plain_at .later [] [.data, .pinned] true (true, "b259492463b7474b0b0bf81ccd3b12b50f7f7e0df54445d1fdbbe9c2308a9ea7") false
    proved (fun _ h => by cases h) (by kernel_rfl) (fun _ h => by cases h) codesetParses_row_tie rfl ⟨rfl, rfl⟩ (by kernel_rfl) rfl
    (fun f fn hf hfn => by
      obtain rfl : f = 3 := Option.some.inj ((show Tryd.prog.funcNamed "intermede/intermedelaw12.CodesetParses" = some 3 by kernel_rfl).symm.trans hf) |>.symm
      obtain rfl : fn = Tryd.f3 := (Option.some.inj (Tryd.func3.symm.trans hfn)).symm
      exact ⟨by kernel_rfl, fun j t ht => by
        rw [Tryd.params3] at ht
        have hm : t ∈ [9] := by simpa using Array.mem_of_getElem? ht
        have hall : ([9].all fun u => !Tryd.prog.wantsStandIn u) = true := by kernel_rfl
        exact (show Tryd.prog.wantsStandIn t = false by simpa using List.all_eq_true.1 hall t hm)⟩)
    (by kernel_rfl)
end Go.Proofs.YtphjfhglapkmhaaDoor.codesetParses
namespace Go.Proofs.YtphjfhglapkmhaaDoor
/-- The card, under a short name, for the claim. -/
theorem codesetParses_card : Rows.CodesetParsesCardSaid := codesetParses.card_holds
end Go.Proofs.YtphjfhglapkmhaaDoor
