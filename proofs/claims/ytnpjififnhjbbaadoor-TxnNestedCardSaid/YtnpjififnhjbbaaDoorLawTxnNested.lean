/- It is proved that TxnNested returns true whatever the two numbers are; and the tied card. No condition. -/
import Derived.Test.YtnpjififnhjbbaaDoorRows
import Derived.Test.YtnpjififnhjbbaaDoorCards
import Derived.Test.YtnpjififnhjbbaaDoorTie
import Derived.Test.YtnpjififnhjbbaaDoorRA
import Derived.Test.YtnpjififnhjbbaaDoorHO
import Derived.HandedShaped
import Derived.Shelf.Vars
import Derived.WalkKit
import Derived.ProofKit
import Derived.OpenShut
import Derived.ShutString
import Derived.ChangeOld
import Derived.Below
import Derived.SizedLaws
import Derived.Lay
import Derived.SevenTiedAt
set_option maxRecDepth 100000
namespace Go.Proofs.YtnpjififnhjbbaaDoor.E
open Go
theorem run_awake (d g : Int) : okR ((EE 399).f3.J0 d g true) = true := by kernel_rfl
theorem tn_low (d g : Int) (h : d < 1) : TN d g = (EE 399).f3.J0 d g true := by
  show (bif (decide (d < 1)) then (EE 399).f3.J0 d g true else (EE 399).f3.J0 d g (decide (d > 8))) = _
  rw [decide_eq_true h]
  rfl
theorem tn_high (d g : Int) (h : 8 < d) : TN d g = (EE 399).f3.J0 d g true := by
  show (bif (decide (d < 1)) then (EE 399).f3.J0 d g true else (EE 399).f3.J0 d g (decide (d > 8))) = _
  rw [decide_eq_false (by omega), decide_eq_true h]
  rfl
theorem okR_some {r : R} (h : okR r = true) : ∃ s, r = some (.ret [.bool true] s) := by
  unfold okR at h
  split at h
  · exact ⟨_, rfl⟩
  · cases h
theorem nested_is (d g : Int) : ∃ s, RUN 3 [.int .i64 d, .int .i64 g] [] = some (.ret [.bool true] s) := by
  have key : okR (TN d g) = true := by
    by_cases h1 : d < 1
    · rw [tn_low d g h1]; exact run_awake d g
    · by_cases h2 : 8 < d
      · rw [tn_high d g h2]; exact run_awake d g
      · match d, h1, h2 with
        | .ofNat 0, h1, _ => exact absurd (by decide) h1
        | .negSucc n, h1, _ => exact absurd (by omega) h1
        | .ofNat (n + 9), _, h2 => exact absurd (show (8 : Int) < ((n + 9 : Nat) : Int) by omega) h2
        | .ofNat 1, _, _ => exact (match g with | .ofNat 0 => t1_0 | .ofNat 1 => t1_1 | .ofNat 2 => t1_2 | .ofNat 3 => t1_3 | .ofNat 4 => t1_4 | .ofNat 5 => t1_5 | .ofNat 6 => t1_6 | .ofNat 7 => t1_7 | .ofNat 8 => t1_8 | .ofNat (n + 9) => t1_p n | .negSucc n => t1_n n)
        | .ofNat 2, _, _ => exact (match g with | .ofNat 0 => t2_0 | .ofNat 1 => t2_1 | .ofNat 2 => t2_2 | .ofNat 3 => t2_3 | .ofNat 4 => t2_4 | .ofNat 5 => t2_5 | .ofNat 6 => t2_6 | .ofNat 7 => t2_7 | .ofNat 8 => t2_8 | .ofNat (n + 9) => t2_p n | .negSucc n => t2_n n)
        | .ofNat 3, _, _ => exact (match g with | .ofNat 0 => t3_0 | .ofNat 1 => t3_1 | .ofNat 2 => t3_2 | .ofNat 3 => t3_3 | .ofNat 4 => t3_4 | .ofNat 5 => t3_5 | .ofNat 6 => t3_6 | .ofNat 7 => t3_7 | .ofNat 8 => t3_8 | .ofNat (n + 9) => t3_p n | .negSucc n => t3_n n)
        | .ofNat 4, _, _ => exact (match g with | .ofNat 0 => t4_0 | .ofNat 1 => t4_1 | .ofNat 2 => t4_2 | .ofNat 3 => t4_3 | .ofNat 4 => t4_4 | .ofNat 5 => t4_5 | .ofNat 6 => t4_6 | .ofNat 7 => t4_7 | .ofNat 8 => t4_8 | .ofNat (n + 9) => t4_p n | .negSucc n => t4_n n)
        | .ofNat 5, _, _ => exact (match g with | .ofNat 0 => t5_0 | .ofNat 1 => t5_1 | .ofNat 2 => t5_2 | .ofNat 3 => t5_3 | .ofNat 4 => t5_4 | .ofNat 5 => t5_5 | .ofNat 6 => t5_6 | .ofNat 7 => t5_7 | .ofNat 8 => t5_8 | .ofNat (n + 9) => t5_p n | .negSucc n => t5_n n)
        | .ofNat 6, _, _ => exact (match g with | .ofNat 0 => t6_0 | .ofNat 1 => t6_1 | .ofNat 2 => t6_2 | .ofNat 3 => t6_3 | .ofNat 4 => t6_4 | .ofNat 5 => t6_5 | .ofNat 6 => t6_6 | .ofNat 7 => t6_7 | .ofNat 8 => t6_8 | .ofNat (n + 9) => t6_p n | .negSucc n => t6_n n)
        | .ofNat 7, _, _ => exact (match g with | .ofNat 0 => t7_0 | .ofNat 1 => t7_1 | .ofNat 2 => t7_2 | .ofNat 3 => t7_3 | .ofNat 4 => t7_4 | .ofNat 5 => t7_5 | .ofNat 6 => t7_6 | .ofNat 7 => t7_7 | .ofNat 8 => t7_8 | .ofNat (n + 9) => t7_p n | .negSucc n => t7_n n)
        | .ofNat 8, _, _ => exact (match g with | .ofNat 0 => t8_0 | .ofNat 1 => t8_1 | .ofNat 2 => t8_2 | .ofNat 3 => t8_3 | .ofNat 4 => t8_4 | .ofNat 5 => t8_5 | .ofNat 6 => t8_6 | .ofNat 7 => t8_7 | .ofNat 8 => t8_8 | .ofNat (n + 9) => t8_p n | .negSucc n => t8_n n)
  obtain ⟨s, h⟩ := okR_some key
  exact ⟨s, (EE_ok 400).f3.b d g _ h⟩
end Go.Proofs.YtnpjififnhjbbaaDoor.E
namespace Go.Proofs.YtnpjififnhjbbaaDoor.txnNested
open Go Go.ChangeShapes Go.WideShapes Go.ChangeAt Go.RowKit
set_option linter.unusedVariables false
theorem own : ownKnob Tryd.prog.godebug = none := by kernel_rfl
open E in
/-- A run without objects, at an untouched world. -/
theorem walked {W : World} (a b : Int) : Calls Tryd.prog 3 #[.int .i64 a, .int .i64 b] W fun e w' => e = .returned (.bool true) ∧ Below W.heap.size W w' := by
  obtain ⟨s, hs⟩ := nested_is a b
  refine (calls0 (w := W) (args' := #[.int .i64 a, .int .i64 b]) RUN_rec (fun _ => rfl) (of_decide_eq_true (by kernel_rfl)) hs ⟨rfl, ?_⟩).mono ?_
  · intro j v x hv hx
    match j, hv, hx with
    | 0, hv, hx => cases hv; cases hx; exact .int _ _
    | 1, hv, hx => cases hv; cases hx; exact .int _ _
  · rintro e w' ⟨own', v', rfl, hp, hv⟩
    have : v' = .bool true := by
      have hv : VRel (Mut M0 own') own'.rho w' (.bool true) v' := hv
      cases hv
      rfl
    subst this
    exact ⟨rfl, below0 hp⟩
theorem lifted (os : Os) (started : os.Started) (H : Type) (enc : TypeId × Value → H) :
    ReturnsInHanded {} Tryd.checked os 3 .any (fun w args => (Rows.txnNestedSpec.pre enc Tryd.prog Tryd.f3 [] false w args ∧ laidMetH Tryd.prog Rows.txnNestedRow.laid w) ∧ sizedMet enc Tryd.prog Tryd.f3 (OpenSpec.ofChange Rows.txnNestedSpec) false w args)
      (Rows.txnNestedSpec.post enc Tryd.prog Tryd.f3 false true false false) := by
  refine returnsInHanded_of_calls (C := Tryd.checked) own started (by kernel_rfl)
    (ChangeSpec.witness_shaped (enc := enc) (C := Tryd.checked) (os := os) (X := fun w _ => laidMetH Tryd.prog Rows.txnNestedRow.laid w) false (World.laidAll Tryd.prog os Rows.txnNestedRow.laid) #[.int .i64 0, .int .i64 0] 8 (World.laidAll_os _ _ _)
      (World.shaped_of_ZipB (by kernel_rfl) (by kernel_rfl)) (by kernel_rfl) (by kernel_rfl) (by kernel_rfl)
      (by rw [MakeChecks.laidMetH_plain _ _ _ (by kernel_rfl)]; exact laidMet_laidAll _ (by kernel_rfl) (by kernel_rfl))) ?_
  intro w tape i _ hsh _ hok hpre _
  obtain ⟨_, _, _, fn', hfn', _, _, _, _, hval1⟩ := hok
  obtain rfl : fn' = Tryd.f3 := Option.some.inj (hfn'.symm.trans Tryd.func3)
  obtain ⟨⟨⟨ds, gs, before, hw, _⟩, _⟩, _⟩ := hpre
  have hW := DataW.Whole.of_heap (w' := w.forCall tape i) (by rfl) hw
  suffices hc : Calls Tryd.prog 3 i.args (w.forCall tape i) fun e W' => ∃ v, e = .returned v ∧ Rows.txnNestedSpec.post enc Tryd.prog Tryd.f3 false true false false (w.forCall tape i) i.args v W' by
    refine hc.mono fun e W' ⟨v, he, hp⟩ => ?_
    subst he
    exact ChangeSpec.post_blind hp
  have hval0 := hval1
  clear hval1 hw
  generalize w.forCall tape i = W at hW hsh hval0 ⊢
  generalize i.args = args at hW hval0 ⊢
  have hval : ∀ (j : Nat) t v, Tryd.f3.params[j]? = some t → args[j]? = some v → Value.okWide Tryd.prog W .any w.heap.size t v := hval0
  have hW' := hW
  obtain ⟨p, q, hA0, hV, rfl, hfz, hnd⟩ := hW
  have hA : DataW.TrodAll enc Tryd.prog W 0 (fun _ => true) true Tryd.f3.params.toList args.toList ds p := hA0
  rw [Tryd.params3] at hA hval
  obtain ⟨v0, vs0, d0, ds0, p0, q0, hargs, rfl, rfl, h0, r0⟩ := trodAll_cons hA
  obtain ⟨v1, vs1, d1, ds1, p1, q1, rfl, rfl, rfl, h1, r1⟩ := trodAll_cons r0
  obtain ⟨rfl, rfl, rfl⟩ := trodAll_nil r1
  obtain rfl : args = #[v0, v1] := by cases args; simp_all
  obtain ⟨rfl, rfl⟩ := trodVars_none hV
  obtain ⟨a0, rfl, rfl, rfl, y0⟩ := open_int Tryd.underlying3 (hval 0 3 v0 rfl rfl) h0
  obtain ⟨a1, rfl, rfl, rfl, y1⟩ := open_int Tryd.underlying3 (hval 1 3 v1 rfl rfl) h1
  clear hA0 hval0
  refine (walked a0 a1).mono fun e W' ⟨he, bel⟩ => ?_
  subst he
  exact ⟨_, rfl, _, _, _, [], _, [], hW', trodAll_mk1 (shut_bool Tryd.underlying4 _), (trodAll_cons_mk (shut_int Tryd.underlying3 y0) (trodAll_cons_mk (shut_int Tryd.underlying3 y1) trodAll_mk0)), rfl, bel.frame _, fun h => by cases h⟩
theorem over : Rows.txnNestedRow.holds Tryd.pinned (OpenSpec.ofChange Rows.txnNestedSpec) :=
  OpenClaim.holds_of_wide 3 Tryd.f3 rfl rfl rfl rfl rfl rfl rfl ⟨rfl, rfl, rfl, rfl, rfl⟩ rfl rfl rfl rfl rfl (by kernel_rfl) Tryd.func3 (by kernel_rfl)
    (of_decide_eq_true (by kernel_rfl)) (by unfold Func.isWrapper; first | (rw [if_pos (by decide +kernel)]; kernel_rfl) | (rw [if_neg (by decide +kernel)]; exact ⟨rfl, rfl⟩))
    (fun os started H enc _ => lifted os started H enc)
theorem proved : Rows.TxnNestedSaid := over
#print axioms proved
theorem card_holds : Rows.TxnNestedCardSaid :=
  Claim7.holds_tied_plain_at .later [] [.data, .data, .data] true (true, "9d08addb859d9ed6800553b0b8e1de678eccf8a2807840f39dfecfe287bac487") false
    proved (fun _ h => by cases h) (by kernel_rfl) (fun _ h => by cases h) txnNested_row_tie rfl ⟨rfl, rfl⟩ (by kernel_rfl) rfl
    (fun f fn hf hfn => by
      obtain rfl : f = 3 := Option.some.inj ((show Tryd.prog.funcNamed "intermede/intermedelaw27.TxnNested" = some 3 by kernel_rfl).symm.trans hf) |>.symm
      obtain rfl : fn = Tryd.f3 := (Option.some.inj (Tryd.func3.symm.trans hfn)).symm
      exact ⟨by kernel_rfl, fun j t ht => by
        rw [Tryd.params3] at ht
        have hm : t ∈ [3] := by
          have := Array.mem_of_getElem? ht
          simpa using this
        have hall : ([3].all fun u => !Tryd.prog.wantsStandIn u) = true := by kernel_rfl
        exact (show Tryd.prog.wantsStandIn t = false by simpa using List.all_eq_true.1 hall t hm)⟩)
    (by kernel_rfl)
end Go.Proofs.YtnpjififnhjbbaaDoor.txnNested
namespace Go.Proofs.YtnpjififnhjbbaaDoor
/-- The card, under a short name, for the claim. -/
theorem txnNested_card : Rows.TxnNestedCardSaid := txnNested.card_holds
end Go.Proofs.YtnpjififnhjbbaaDoor
