-- WRITTEN BY wip/tools/gprint.py, a program of this repo, for this claim.
import Derived.Test.YteioboechlnogaaPx0
import Derived.Test.YteioboechlnogaaPx13
import Derived.Test.YteioboechlnogaaPx6
import Derived.Test.YteioboechlnogaaPx7
import Derived.Test.YteioboechlnogaaPx8
import Derived.Test.YteioboechlnogaaG
namespace Go.Proofs.Yteioboechlnogaa.P
open Go.RowKit Go.Proofs.YteioboechlnogaaW.PrintWords Go.Proofs.YteioboechlnogaaW.PrintLast Go.Proofs.YteioboechlnogaaW.PrintMore
attribute [local go_sem] max2_int min2_int max_two min_two max_three min_three max_four min_four   -- for this text's walks alone
set_option linter.unusedVariables false
set_option linter.unusedSimpArgs false

-- GIVEN: function 22 (codeset_Name)

/-! ### intermederef12_Name: function 23 -/
def intermederef12_Name.f (a0 : Int) : Option (ByteArray) := if a0 = 1 then (some (⟨#[97, 115, 99, 105, 105]⟩ : ByteArray)) else (if a0 = 2 then (some (⟨#[108, 97, 116, 105, 110]⟩ : ByteArray)) else (if a0 = 3 then (some (⟨#[117, 116, 102, 56]⟩ : ByteArray)) else (if a0 = 4 then (some (⟨#[117, 116, 102, 49, 54]⟩ : ByteArray)) else (if a0 = 5 then (some (⟨#[103, 114, 101, 101, 107]⟩ : ByteArray)) else (some (⟨#[]⟩ : ByteArray))))))
set_option maxHeartbeats 8000000 in
set_option maxRecDepth 100000 in
theorem intermederef12_Name.calls (a0 : Int) (r : ByteArray) (w : World) (h : intermederef12_Name.f a0 = some r) :
    Calls Try.prog 23 #[.int .i64 a0] w fun e w' => e = .returned (.string r) ∧ Drawn0 w w' := by
  have H : (if a0 = 1 then (some (⟨#[97, 115, 99, 105, 105]⟩ : ByteArray)) else (if a0 = 2 then (some (⟨#[108, 97, 116, 105, 110]⟩ : ByteArray)) else (if a0 = 3 then (some (⟨#[117, 116, 102, 56]⟩ : ByteArray)) else (if a0 = 4 then (some (⟨#[117, 116, 102, 49, 54]⟩ : ByteArray)) else (if a0 = 5 then (some (⟨#[103, 114, 101, 101, 107]⟩ : ByteArray)) else (some (⟨#[]⟩ : ByteArray))))))) = some r := h
  clear h
  by_cases c2 : a0 = 1
  · rw [if_pos c2] at H
    have c2b0 : (a0 == 1) = true := beq_iff_eq.mpr c2
    have c2b1 : (a0 != 1) = false := bne_eq_false_iff_eq.mpr c2
    clear c2
    obtain rfl := Option.some.inj H
    go_enter Try.func23, Try.ntmps23
    go_wp2
    go_ret
    exact ⟨by first | rfl | (simp; done) | (simp [*]; done), by repeat (first | exact Drawn0.refl _ | apply Drawn0.step)⟩
  · rw [if_neg c2] at H
    have c2b0 : (a0 == 1) = false := beq_eq_false_iff_ne.mpr c2
    have c2b1 : (a0 != 1) = true := bne_iff_ne.mpr c2
    by_cases c3 : a0 = 2
    · rw [if_pos c3] at H
      have c3b0 : (a0 == 2) = true := beq_iff_eq.mpr c3
      have c3b1 : (a0 != 2) = false := bne_eq_false_iff_eq.mpr c3
      clear c3
      obtain rfl := Option.some.inj H
      go_enter Try.func23, Try.ntmps23
      go_wp2
      go_ret
      exact ⟨by first | rfl | (simp; done) | (simp [*]; done), by repeat (first | exact Drawn0.refl _ | apply Drawn0.step)⟩
    · rw [if_neg c3] at H
      have c3b0 : (a0 == 2) = false := beq_eq_false_iff_ne.mpr c3
      have c3b1 : (a0 != 2) = true := bne_iff_ne.mpr c3
      by_cases c4 : a0 = 3
      · rw [if_pos c4] at H
        have c4b0 : (a0 == 3) = true := beq_iff_eq.mpr c4
        have c4b1 : (a0 != 3) = false := bne_eq_false_iff_eq.mpr c4
        clear c4
        obtain rfl := Option.some.inj H
        go_enter Try.func23, Try.ntmps23
        go_wp2
        go_ret
        exact ⟨by first | rfl | (simp; done) | (simp [*]; done), by repeat (first | exact Drawn0.refl _ | apply Drawn0.step)⟩
      · rw [if_neg c4] at H
        have c4b0 : (a0 == 3) = false := beq_eq_false_iff_ne.mpr c4
        have c4b1 : (a0 != 3) = true := bne_iff_ne.mpr c4
        by_cases c5 : a0 = 4
        · rw [if_pos c5] at H
          have c5b0 : (a0 == 4) = true := beq_iff_eq.mpr c5
          have c5b1 : (a0 != 4) = false := bne_eq_false_iff_eq.mpr c5
          clear c5
          obtain rfl := Option.some.inj H
          go_enter Try.func23, Try.ntmps23
          go_wp2
          go_ret
          exact ⟨by first | rfl | (simp; done) | (simp [*]; done), by repeat (first | exact Drawn0.refl _ | apply Drawn0.step)⟩
        · rw [if_neg c5] at H
          have c5b0 : (a0 == 4) = false := beq_eq_false_iff_ne.mpr c5
          have c5b1 : (a0 != 4) = true := bne_iff_ne.mpr c5
          by_cases c6 : a0 = 5
          · rw [if_pos c6] at H
            have c6b0 : (a0 == 5) = true := beq_iff_eq.mpr c6
            have c6b1 : (a0 != 5) = false := bne_eq_false_iff_eq.mpr c6
            clear c6
            obtain rfl := Option.some.inj H
            go_enter Try.func23, Try.ntmps23
            go_wp2
            go_ret
            exact ⟨by first | rfl | (simp; done) | (simp [*]; done), by repeat (first | exact Drawn0.refl _ | apply Drawn0.step)⟩
          · rw [if_neg c6] at H
            have c6b0 : (a0 == 5) = false := beq_eq_false_iff_ne.mpr c6
            have c6b1 : (a0 != 5) = true := bne_iff_ne.mpr c6
            obtain rfl := Option.some.inj H
            go_enter Try.func23, Try.ntmps23
            go_wp2
            go_ret
            exact ⟨by first | rfl | (simp; done) | (simp [*]; done), by repeat (first | exact Drawn0.refl _ | apply Drawn0.step)⟩

/-! ### intermedelaw12_CodesetTexts: function 6 -/
def intermedelaw12_CodesetTexts.j0 : Nat → Int → ByteArray → List Int → Int → Bool → Option (Bool)
  | 0, _, _, _, _, _ => none
  | k + 1, x0, x1, x9, x10, x68 => if x68 = true then (some false) else (if x10 = 0 then ((codeset_Text.f x0 x9).bind fun bt388 => (if bt388.2 = 0 then (if bt388.1.toList = x1.toList then ((intermedelaw12_awake.f k).bind fun t390 => (some t390)) else (some false)) else (some false))) else ((intermedelaw12_awake.f k).bind fun t391 => (some t391)))
def intermedelaw12_CodesetTexts.f (k : Nat) (a0 : Int) (a1 : ByteArray) : Option (Bool) := (intermedelaw12_long.f k (([a1] : List ByteArray))).bind fun t371 => (if t371 = true then ((intermedelaw12_awake.f k).bind fun t372 => (some t372)) else ((codeset_Right.f a0 a1).bind fun bt373 => ((intermederef12_Right.f k a0 a1).bind fun bt375 => ((codeset_Points.f a0 a1).bind fun bt377 => ((intermederef12_Points.f k a0 a1).bind fun bt381 => (if bt373.1 = bt375.1 then (if bt373.2 = bt375.2 then ((intermederef12_SameInts.f k bt377.1 bt381.1).bind fun t385 => (if t385 = true then (if bt377.2 = bt381.2 then ((codeset_Name.f a0).bind fun t386 => ((intermederef12_Name.f a0).bind fun t387 => (intermedelaw12_CodesetTexts.j0 k a0 a1 bt377.1 bt377.2 (t386.toList != t387.toList)))) else (intermedelaw12_CodesetTexts.j0 k a0 a1 bt377.1 bt377.2 true)) else (intermedelaw12_CodesetTexts.j0 k a0 a1 bt377.1 bt377.2 true))) else (intermedelaw12_CodesetTexts.j0 k a0 a1 bt377.1 bt377.2 true)) else (intermedelaw12_CodesetTexts.j0 k a0 a1 bt377.1 bt377.2 true)))))))
theorem intermedelaw12_CodesetTexts.mono_l : ∀ k, (∀ y0 y1 y2 y3 y4, LeO (intermedelaw12_CodesetTexts.j0 k y0 y1 y2 y3 y4) (intermedelaw12_CodesetTexts.j0 (k + 1) y0 y1 y2 y3 y4))
  | 0 => fun _ _ _ _ _ r h => by simp [intermedelaw12_CodesetTexts.j0] at h
  | k + 1 => by
    have ih0 := intermedelaw12_CodesetTexts.mono_l k
    · intro y0 y1 y2 y3 y4
      unfold intermedelaw12_CodesetTexts.j0
      repeat' first
      | (with_reducible exact ih0 _ _ _ _ _)
      | (with_reducible exact intermedelaw12_awake.mono _)
      | (with_reducible exact intermedelaw12_long.mono _ _)
      | (with_reducible exact intermederef12_Points.mono _ _ _)
      | (with_reducible exact intermederef12_Right.mono _ _ _)
      | (with_reducible exact intermederef12_SameInts.mono _ _ _)
      | (with_reducible exact LeO.refl _)
      | (with_reducible exact LeO.none _)
      | (with_reducible refine LeO.ite ?_ ?_)
      | (with_reducible refine LeO.bind ?_ (fun _ => ?_))
      | exact ih0 _ _ _ _ _
      | exact intermedelaw12_awake.mono _
      | exact intermedelaw12_long.mono _ _
      | exact intermederef12_Points.mono _ _ _
      | exact intermederef12_Right.mono _ _ _
      | exact intermederef12_SameInts.mono _ _ _
      | exact LeO.none _
      | refine LeO.ite ?_ ?_
      | refine LeO.bind ?_ (fun _ => ?_)
theorem intermedelaw12_CodesetTexts.mono : ∀ a0 a1 k, LeO (intermedelaw12_CodesetTexts.f k a0 a1) (intermedelaw12_CodesetTexts.f (k + 1) a0 a1) := by
  intro a0 a1 k
  have ih0 := intermedelaw12_CodesetTexts.mono_l k
  unfold intermedelaw12_CodesetTexts.f
  repeat' first
      | (with_reducible exact ih0 _ _ _ _ _)
      | (with_reducible exact intermedelaw12_awake.mono _)
      | (with_reducible exact intermedelaw12_long.mono _ _)
      | (with_reducible exact intermederef12_Points.mono _ _ _)
      | (with_reducible exact intermederef12_Right.mono _ _ _)
      | (with_reducible exact intermederef12_SameInts.mono _ _ _)
      | (with_reducible exact LeO.refl _)
      | (with_reducible exact LeO.none _)
      | (with_reducible refine LeO.ite ?_ ?_)
      | (with_reducible refine LeO.bind ?_ (fun _ => ?_))
      | exact ih0 _ _ _ _ _
      | exact intermedelaw12_awake.mono _
      | exact intermedelaw12_long.mono _ _
      | exact intermederef12_Points.mono _ _ _
      | exact intermederef12_Right.mono _ _ _
      | exact intermederef12_SameInts.mono _ _ _
      | exact LeO.none _
      | refine LeO.ite ?_ ?_
      | refine LeO.bind ?_ (fun _ => ?_)
set_option maxHeartbeats 8000000 in
set_option maxRecDepth 100000 in
theorem intermedelaw12_CodesetTexts.calls (k : Nat) (a0 : Int) (a1 : ByteArray) (r : Bool) (w : World) (h : intermedelaw12_CodesetTexts.f k a0 a1 = some r) :
    Calls Try.prog 6 #[.int .i64 a0, .string a1] w fun e w' => e = .returned (.bool r) ∧ Below w.heap.size w w' := by
  have HB := Aside0.mk (Below.refl w.heap.size w)
  have H : ((intermedelaw12_long.f k (([a1] : List ByteArray))).bind fun t371 => (if t371 = true then ((intermedelaw12_awake.f k).bind fun t372 => (some t372)) else ((codeset_Right.f a0 a1).bind fun bt373 => ((intermederef12_Right.f k a0 a1).bind fun bt375 => ((codeset_Points.f a0 a1).bind fun bt377 => ((intermederef12_Points.f k a0 a1).bind fun bt381 => (if bt373.1 = bt375.1 then (if bt373.2 = bt375.2 then ((intermederef12_SameInts.f k bt377.1 bt381.1).bind fun t385 => (if t385 = true then (if bt377.2 = bt381.2 then ((codeset_Name.f a0).bind fun t386 => ((intermederef12_Name.f a0).bind fun t387 => (intermedelaw12_CodesetTexts.j0 k a0 a1 bt377.1 bt377.2 (t386.toList != t387.toList)))) else (intermedelaw12_CodesetTexts.j0 k a0 a1 bt377.1 bt377.2 true)) else (intermedelaw12_CodesetTexts.j0 k a0 a1 bt377.1 bt377.2 true))) else (intermedelaw12_CodesetTexts.j0 k a0 a1 bt377.1 bt377.2 true)) else (intermedelaw12_CodesetTexts.j0 k a0 a1 bt377.1 bt377.2 true)))))))) = some r := h
  clear h
  obtain ⟨y368, hy368⟩ : ∃ y_ : List ByteArray, y_ = (([a1] : List ByteArray)) := ⟨_, rfl⟩
  replace H : ((intermedelaw12_long.f k y368).bind fun t371 => (if t371 = true then ((intermedelaw12_awake.f k).bind fun t372 => (some t372)) else ((codeset_Right.f a0 a1).bind fun bt373 => ((intermederef12_Right.f k a0 a1).bind fun bt375 => ((codeset_Points.f a0 a1).bind fun bt377 => ((intermederef12_Points.f k a0 a1).bind fun bt381 => (if bt373.1 = bt375.1 then (if bt373.2 = bt375.2 then ((intermederef12_SameInts.f k bt377.1 bt381.1).bind fun t385 => (if t385 = true then (if bt377.2 = bt381.2 then ((codeset_Name.f a0).bind fun t386 => ((intermederef12_Name.f a0).bind fun t387 => (intermedelaw12_CodesetTexts.j0 k a0 a1 bt377.1 bt377.2 (t386.toList != t387.toList)))) else (intermedelaw12_CodesetTexts.j0 k a0 a1 bt377.1 bt377.2 true)) else (intermedelaw12_CodesetTexts.j0 k a0 a1 bt377.1 bt377.2 true))) else (intermedelaw12_CodesetTexts.j0 k a0 a1 bt377.1 bt377.2 true)) else (intermedelaw12_CodesetTexts.j0 k a0 a1 bt377.1 bt377.2 true)))))))) = some r := by first | (rw [hy368]; with_reducible exact H) | (have H2_ := (Option.bind_some _ _).symm.trans H; rw [hy368]; with_reducible exact H2_) | (have H2_ := (Option.bind_some _ _).symm.trans H; with_reducible exact H2_) | with_reducible exact H | (rw [hy368]; exact H) | exact H
  have Ny368 := Aside0.mk hy368
  clear hy368
  replace H := Option.bind_eq_some_iff.mp H
  obtain ⟨t371, A30, H⟩ := H
  replace H : (if t371 = true then ((intermedelaw12_awake.f k).bind fun t372 => (some t372)) else ((codeset_Right.f a0 a1).bind fun bt373 => ((intermederef12_Right.f k a0 a1).bind fun bt375 => ((codeset_Points.f a0 a1).bind fun bt377 => ((intermederef12_Points.f k a0 a1).bind fun bt381 => (if bt373.1 = bt375.1 then (if bt373.2 = bt375.2 then ((intermederef12_SameInts.f k bt377.1 bt381.1).bind fun t385 => (if t385 = true then (if bt377.2 = bt381.2 then ((codeset_Name.f a0).bind fun t386 => ((intermederef12_Name.f a0).bind fun t387 => (intermedelaw12_CodesetTexts.j0 k a0 a1 bt377.1 bt377.2 (t386.toList != t387.toList)))) else (intermedelaw12_CodesetTexts.j0 k a0 a1 bt377.1 bt377.2 true)) else (intermedelaw12_CodesetTexts.j0 k a0 a1 bt377.1 bt377.2 true))) else (intermedelaw12_CodesetTexts.j0 k a0 a1 bt377.1 bt377.2 true)) else (intermedelaw12_CodesetTexts.j0 k a0 a1 bt377.1 bt377.2 true))))))) = some r := H
  have A3 := Aside0.mk A30
  clear A30
  by_cases c4 : t371 = true
  · subst c4
    have H1 : ((intermedelaw12_awake.f k).bind fun t372 => (some t372)) = some r := by rw [if_pos rfl] at H; exact H
    clear H
    have H := H1
    clear H1
    replace H := Option.bind_eq_some_iff.mp H
    obtain ⟨t372, A50, H⟩ := H
    replace H : (some t372) = some r := H
    have A5 := Aside0.mk A50
    clear A50
    obtain rfl := Option.some.inj H
    go_enter Try.func6, Try.ntmps6
    go_wp2_with (first | ((with_reducible refine gate_dst (N := 16) rfl ?_); refine Kd.R_lit Kd.string _ 9 ?hg (N := 16) ?hd (xs := ([a1] : List ByteArray)) (inner := [.string a1]) (ok := fun _ => True) (okp := fun _ => True) ?hr ?hp (fun _ hk => hk) trivial (Below.refl _ _) (Nat.le_refl _) (by simp) ?_; (case hd => rfl); (case hg => rfl); (case hr => first | (go_simp; done) | (go_simp; rfl)); (case hp => exact (Reps.one (show Kd.M Kd.string _ _ _ a1 [.string a1] from rfl) (Reps.none _ _))); intro v369 w6 ho7 hb hg_ hnew_; clear hg_ hnew_; (first | rw [← Ny368.out] at ho7 | (simp only [Int.reduceToNat] at ho7; rw [← Ny368.out] at ho7)); have n0_ := Aside0.mk (Kd.R_lower ho7 (below_size (by repeat (first | (with_reducible first | exact HB.out | apply below_alloc | apply pw_below_drewN | apply below_drew1) | exact HB.out)))); have n1_ := Aside0.mk (below_step (by repeat (first | (with_reducible first | exact HB.out | apply below_alloc | apply pw_below_drewN | apply below_drew1) | exact HB.out)) hb); clear HB; have HO370 := n0_; have HB := n1_; clear n0_ n1_; clear hb ho7; obtain ⟨Ao8, co8, eo8⟩ := Kd.R_slice HO370.out; subst eo8) | ((with_reducible refine gate_callee (f := 7) rfl ?_); refine goesL_ (some 17) rfl rfl Try.func7 (by kernel_rfl) rfl #[.slice Ao8 y368.length co8] rfl (by (try simp only [List.map_toArray, List.map_cons, List.map_nil]); first | done | rfl | (simp only [List.length_drop, List.length_take]; rfl)) ?_; (with_reducible refine (intermedelaw12_long.calls k _ _ y368 true _ ?side1 ?side2 A3.out).mono ?_); (case side1 => repeat (first | exact (Kd.R_reads' HO370.out).2.2 | (with_reducible refine Kd.C_alloc ?_ _) | (with_reducible refine Kd.C_drewN ?_ _) | (with_reducible refine Kd.C_drew ?_))); (case side2 => exact (Kd.R_reads' HO370.out).2.1); rintro e w' ⟨rfl, ⟨nd, rfl⟩⟩; refine ⟨_, rfl, ?_⟩) | ((with_reducible refine gate_callee (f := 8) rfl ?_); refine goesL_ (some 18) rfl rfl Try.func8 (by kernel_rfl) rfl #[] rfl (by (try simp only [List.map_toArray, List.map_cons, List.map_nil]); first | done | rfl | (simp only [List.length_drop, List.length_take]; rfl)) ?_; (with_reducible refine (intermedelaw12_awake.calls k  t372 _ A5.out).mono ?_); rintro e w9 ⟨rfl, hb⟩; refine ⟨_, rfl, ?_⟩; have n0_ := Aside0.mk (Kd.R_below (by (with_reducible repeat (first | apply Kd.R_alloc | apply Kd.R_drewN | apply Kd.R_drew)); exact HO370.out) hb); have n1_ := Aside0.mk (below_step (by repeat (first | (with_reducible first | exact HB.out | apply below_alloc | apply pw_below_drewN | apply below_drew1) | exact HB.out)) hb); clear HO370; clear HB; have HO370 := n0_; have HB := n1_; clear n0_ n1_; (try clear hb); (try clear hb2); (try clear hk); (try clear hi)))
    go_ret
    exact ⟨by first | rfl | (simp [errW_none, errW_some] <;> rfl) | (simp [*, errW_none, errW_some] <;> rfl), by repeat (first | (with_reducible first | exact HB.out | apply below_alloc | apply pw_below_drewN | apply below_drew1) | exact HB.out)⟩
  · replace c4 := Bool.eq_false_iff.mpr c4
    subst c4
    have H1 : ((codeset_Right.f a0 a1).bind fun bt373 => ((intermederef12_Right.f k a0 a1).bind fun bt375 => ((codeset_Points.f a0 a1).bind fun bt377 => ((intermederef12_Points.f k a0 a1).bind fun bt381 => (if bt373.1 = bt375.1 then (if bt373.2 = bt375.2 then ((intermederef12_SameInts.f k bt377.1 bt381.1).bind fun t385 => (if t385 = true then (if bt377.2 = bt381.2 then ((codeset_Name.f a0).bind fun t386 => ((intermederef12_Name.f a0).bind fun t387 => (intermedelaw12_CodesetTexts.j0 k a0 a1 bt377.1 bt377.2 (t386.toList != t387.toList)))) else (intermedelaw12_CodesetTexts.j0 k a0 a1 bt377.1 bt377.2 true)) else (intermedelaw12_CodesetTexts.j0 k a0 a1 bt377.1 bt377.2 true))) else (intermedelaw12_CodesetTexts.j0 k a0 a1 bt377.1 bt377.2 true)) else (intermedelaw12_CodesetTexts.j0 k a0 a1 bt377.1 bt377.2 true)))))) = some r := by rw [if_neg (show ¬ (false = true) by decide)] at H; exact H
    clear H
    have H := H1
    clear H1
    replace H := Option.bind_eq_some_iff.mp H
    obtain ⟨⟨t373, t374⟩, A100, H⟩ := H
    replace H : ((intermederef12_Right.f k a0 a1).bind fun bt375 => ((codeset_Points.f a0 a1).bind fun bt377 => ((intermederef12_Points.f k a0 a1).bind fun bt381 => (if t373 = bt375.1 then (if t374 = bt375.2 then ((intermederef12_SameInts.f k bt377.1 bt381.1).bind fun t385 => (if t385 = true then (if bt377.2 = bt381.2 then ((codeset_Name.f a0).bind fun t386 => ((intermederef12_Name.f a0).bind fun t387 => (intermedelaw12_CodesetTexts.j0 k a0 a1 bt377.1 bt377.2 (t386.toList != t387.toList)))) else (intermedelaw12_CodesetTexts.j0 k a0 a1 bt377.1 bt377.2 true)) else (intermedelaw12_CodesetTexts.j0 k a0 a1 bt377.1 bt377.2 true))) else (intermedelaw12_CodesetTexts.j0 k a0 a1 bt377.1 bt377.2 true)) else (intermedelaw12_CodesetTexts.j0 k a0 a1 bt377.1 bt377.2 true))))) = some r := H
    have A10 := Aside0.mk A100
    clear A100
    replace H := Option.bind_eq_some_iff.mp H
    obtain ⟨⟨t375, t376⟩, A110, H⟩ := H
    replace H : ((codeset_Points.f a0 a1).bind fun bt377 => ((intermederef12_Points.f k a0 a1).bind fun bt381 => (if t373 = t375 then (if t374 = t376 then ((intermederef12_SameInts.f k bt377.1 bt381.1).bind fun t385 => (if t385 = true then (if bt377.2 = bt381.2 then ((codeset_Name.f a0).bind fun t386 => ((intermederef12_Name.f a0).bind fun t387 => (intermedelaw12_CodesetTexts.j0 k a0 a1 bt377.1 bt377.2 (t386.toList != t387.toList)))) else (intermedelaw12_CodesetTexts.j0 k a0 a1 bt377.1 bt377.2 true)) else (intermedelaw12_CodesetTexts.j0 k a0 a1 bt377.1 bt377.2 true))) else (intermedelaw12_CodesetTexts.j0 k a0 a1 bt377.1 bt377.2 true)) else (intermedelaw12_CodesetTexts.j0 k a0 a1 bt377.1 bt377.2 true)))) = some r := H
    have A11 := Aside0.mk A110
    clear A110
    replace H := Option.bind_eq_some_iff.mp H
    obtain ⟨⟨t377, t378⟩, A120, H⟩ := H
    replace H : ((intermederef12_Points.f k a0 a1).bind fun bt381 => (if t373 = t375 then (if t374 = t376 then ((intermederef12_SameInts.f k t377 bt381.1).bind fun t385 => (if t385 = true then (if t378 = bt381.2 then ((codeset_Name.f a0).bind fun t386 => ((intermederef12_Name.f a0).bind fun t387 => (intermedelaw12_CodesetTexts.j0 k a0 a1 t377 t378 (t386.toList != t387.toList)))) else (intermedelaw12_CodesetTexts.j0 k a0 a1 t377 t378 true)) else (intermedelaw12_CodesetTexts.j0 k a0 a1 t377 t378 true))) else (intermedelaw12_CodesetTexts.j0 k a0 a1 t377 t378 true)) else (intermedelaw12_CodesetTexts.j0 k a0 a1 t377 t378 true))) = some r := H
    have A12 := Aside0.mk A120
    clear A120
    replace H := Option.bind_eq_some_iff.mp H
    obtain ⟨⟨t381, t382⟩, A130, H⟩ := H
    replace H : (if t373 = t375 then (if t374 = t376 then ((intermederef12_SameInts.f k t377 t381).bind fun t385 => (if t385 = true then (if t378 = t382 then ((codeset_Name.f a0).bind fun t386 => ((intermederef12_Name.f a0).bind fun t387 => (intermedelaw12_CodesetTexts.j0 k a0 a1 t377 t378 (t386.toList != t387.toList)))) else (intermedelaw12_CodesetTexts.j0 k a0 a1 t377 t378 true)) else (intermedelaw12_CodesetTexts.j0 k a0 a1 t377 t378 true))) else (intermedelaw12_CodesetTexts.j0 k a0 a1 t377 t378 true)) else (intermedelaw12_CodesetTexts.j0 k a0 a1 t377 t378 true)) = some r := H
    have A13 := Aside0.mk A130
    clear A130
    have HC14 := Aside0.mk H
    clear H
    go_enter Try.func6, Try.ntmps6
    go_upto_region 7 with (first | ((with_reducible refine gate_dst (N := 16) rfl ?_); refine Kd.R_lit Kd.string _ 9 ?hg (N := 16) ?hd (xs := ([a1] : List ByteArray)) (inner := [.string a1]) (ok := fun _ => True) (okp := fun _ => True) ?hr ?hp (fun _ hk => hk) trivial (Below.refl _ _) (Nat.le_refl _) (by simp) ?_; (case hd => rfl); (case hg => rfl); (case hr => first | (go_simp; done) | (go_simp; rfl)); (case hp => exact (Reps.one (show Kd.M Kd.string _ _ _ a1 [.string a1] from rfl) (Reps.none _ _))); intro v369 w15 ho16 hb hg_ hnew_; clear hg_ hnew_; (first | rw [← Ny368.out] at ho16 | (simp only [Int.reduceToNat] at ho16; rw [← Ny368.out] at ho16)); have n0_ := Aside0.mk (Kd.R_lower ho16 (below_size (by repeat (first | (with_reducible first | exact HB.out | apply below_alloc | apply pw_below_drewN | apply below_drew1) | exact HB.out)))); have n1_ := Aside0.mk (below_step (by repeat (first | (with_reducible first | exact HB.out | apply below_alloc | apply pw_below_drewN | apply below_drew1) | exact HB.out)) hb); clear HB; have HO370 := n0_; have HB := n1_; clear n0_ n1_; clear hb ho16; obtain ⟨Ao17, co17, eo17⟩ := Kd.R_slice HO370.out; subst eo17) | ((with_reducible refine gate_callee (f := 7) rfl ?_); refine goesL_ (some 17) rfl rfl Try.func7 (by kernel_rfl) rfl #[.slice Ao17 y368.length co17] rfl (by (try simp only [List.map_toArray, List.map_cons, List.map_nil]); first | done | rfl | (simp only [List.length_drop, List.length_take]; rfl)) ?_; (with_reducible refine (intermedelaw12_long.calls k _ _ y368 false _ ?side1 ?side2 A3.out).mono ?_); (case side1 => repeat (first | exact (Kd.R_reads' HO370.out).2.2 | (with_reducible refine Kd.C_alloc ?_ _) | (with_reducible refine Kd.C_drewN ?_ _) | (with_reducible refine Kd.C_drew ?_))); (case side2 => exact (Kd.R_reads' HO370.out).2.1); rintro e w' ⟨rfl, ⟨nd, rfl⟩⟩; refine ⟨_, rfl, ?_⟩) | ((with_reducible refine gate_callee (f := 20) rfl ?_); refine goesL_ (some 22) rfl rfl Try.func20 (by kernel_rfl) rfl #[.int .i64 a0, .string a1] rfl (by (try simp only [List.map_toArray, List.map_cons, List.map_nil]); first | done | rfl | (simp only [List.length_drop, List.length_take]; rfl)) ?_; (with_reducible refine (codeset_Right.calls a0 a1 t373 t374 _ A10.out).mono ?_); rintro e w18 ⟨rfl, hb⟩; refine ⟨_, rfl, ?_⟩; have n0_ := Aside0.mk (Kd.R_below (by (with_reducible repeat (first | apply Kd.R_alloc | apply Kd.R_drewN | apply Kd.R_drew)); exact HO370.out) hb); have n1_ := Aside0.mk (below_step (by repeat (first | (with_reducible first | exact HB.out | apply below_alloc | apply pw_below_drewN | apply below_drew1) | exact HB.out)) hb); clear HO370; clear HB; have HO370 := n0_; have HB := n1_; clear n0_ n1_; (try clear hb); (try clear hb2); (try clear hk); (try clear hi)) | ((with_reducible refine gate_callee (f := 13) rfl ?_); refine goesL_ (some 28) rfl rfl Try.func13 (by kernel_rfl) rfl #[.int .i64 a0, .string a1] rfl (by (try simp only [List.map_toArray, List.map_cons, List.map_nil]); first | done | rfl | (simp only [List.length_drop, List.length_take]; rfl)) ?_; (with_reducible refine (intermederef12_Right.calls k a0 a1 t375 t376 _ A11.out).mono ?_); rintro e w19 ⟨rfl, hb⟩; refine ⟨_, rfl, ?_⟩; have n0_ := Aside0.mk (Kd.R_below (by (with_reducible repeat (first | apply Kd.R_alloc | apply Kd.R_drewN | apply Kd.R_drew)); exact HO370.out) hb); have n1_ := Aside0.mk (below_step (by repeat (first | (with_reducible first | exact HB.out | apply below_alloc | apply pw_below_drewN | apply below_drew1) | exact HB.out)) hb); clear HO370; clear HB; have HO370 := n0_; have HB := n1_; clear n0_ n1_; (try clear hb); (try clear hb2); (try clear hk); (try clear hi)) | ((with_reducible refine gate_callee (f := 16) rfl ?_); refine goesL_ (some 34) rfl rfl Try.func16 (by kernel_rfl) rfl #[.int .i64 a0, .string a1] rfl (by (try simp only [List.map_toArray, List.map_cons, List.map_nil]); first | done | rfl | (simp only [List.length_drop, List.length_take]; rfl)) ?_; (with_reducible refine (codeset_Points.calls a0 a1 t377 t378 _ A12.out).mono ?_); rintro e w20 ⟨v379, rfl, ho0, hb⟩; refine ⟨_, rfl, ?_⟩; have n0_ := Aside0.mk (Kd.R_below (by (with_reducible repeat (first | apply Kd.R_alloc | apply Kd.R_drewN | apply Kd.R_drew)); exact HO370.out) hb); have n1_ := Aside0.mk (Kd.R_lower ho0 (below_size (by repeat (first | (with_reducible first | exact HB.out | apply below_alloc | apply pw_below_drewN | apply below_drew1) | exact HB.out)))); have n2_ := Aside0.mk (below_step (by repeat (first | (with_reducible first | exact HB.out | apply below_alloc | apply pw_below_drewN | apply below_drew1) | exact HB.out)) hb); clear HO370; clear HB; have HO370 := n0_; have HO380 := n1_; have HB := n2_; clear n0_ n1_ n2_; (try clear hb); (try clear hb2); (try clear hk); (try clear hi); (try clear ho0)) | ((with_reducible refine gate_callee (f := 21) rfl ?_); refine goesL_ (some 40) rfl rfl Try.func21 (by kernel_rfl) rfl #[.int .i64 a0, .string a1] rfl (by (try simp only [List.map_toArray, List.map_cons, List.map_nil]); first | done | rfl | (simp only [List.length_drop, List.length_take]; rfl)) ?_; (with_reducible refine (intermederef12_Points.calls k a0 a1 t381 t382 _ A13.out).mono ?_); rintro e w21 ⟨v383, rfl, ho0, hb⟩; refine ⟨_, rfl, ?_⟩; have n0_ := Aside0.mk (Kd.R_below (by (with_reducible repeat (first | apply Kd.R_alloc | apply Kd.R_drewN | apply Kd.R_drew)); exact HO370.out) hb); have n1_ := Aside0.mk (Kd.R_elder' (by (with_reducible repeat (first | apply Kd.R_alloc | apply Kd.R_drewN | apply Kd.R_drew)); exact HO380.out) (Kd.R_base ho0) hb); have n2_ := Aside0.mk (Kd.R_lower (Kd.R_new' ho0 (Kd.R_lt (by (with_reducible repeat (first | apply Kd.R_alloc | apply Kd.R_drewN | apply Kd.R_drew)); exact HO380.out))) (below_size (by repeat (first | (with_reducible first | exact HB.out | apply below_alloc | apply pw_below_drewN | apply below_drew1) | exact HB.out)))); have n3_ := Aside0.mk (below_step (by repeat (first | (with_reducible first | exact HB.out | apply below_alloc | apply pw_below_drewN | apply below_drew1) | exact HB.out)) hb); clear HO370; clear HO380; clear HB; have HO370 := n0_; have HO380 := n1_; have HO384 := n2_; have HB := n3_; clear n0_ n1_ n2_ n3_; (try clear hb); (try clear hb2); (try clear hk); (try clear hi); (try clear ho0)))
    (try simp only [Act.put, List.setIfInBounds_toArray, List.set_cons_zero, List.set_cons_succ])
    go_cut [68] (fun v68 wc => ∃ (kq : Nat) (x68_13 : Bool), v68 = .bool x68_13 ∧ Aside0 (intermedelaw12_CodesetTexts.j0 kq a0 a1 t377 t378 x68_13 = some r) ∧ Aside0 (kq ≤ k) ∧ Aside0 (Kd.R (Kd.int .i64) 3 wc w.heap.size (fun _ => True) v379 t377) ∧ Aside0 (Below w.heap.size w wc))
    case first =>
      have H := HC14.out
      clear HC14
      by_cases c22 : t373 = t375
      · rw [if_pos c22] at H
        have c22b0 : (t373 == t375) = true := beq_iff_eq.mpr c22
        have c22b1 : (t373 != t375) = false := bne_eq_false_iff_eq.mpr c22
        clear c22
        (first | rw [c22b0] | (simp only [i64_w, i32_w]; rw [c22b0]) | skip)
        by_cases c23 : t374 = t376
        · rw [if_pos c23] at H
          have c23b0 : (t374 == t376) = true := beq_iff_eq.mpr c23
          have c23b1 : (t374 != t376) = false := bne_eq_false_iff_eq.mpr c23
          clear c23
          replace H := Option.bind_eq_some_iff.mp H
          obtain ⟨t385, A240, H⟩ := H
          replace H : (if t385 = true then (if t378 = t382 then ((codeset_Name.f a0).bind fun t386 => ((intermederef12_Name.f a0).bind fun t387 => (intermedelaw12_CodesetTexts.j0 k a0 a1 t377 t378 (t386.toList != t387.toList)))) else (intermedelaw12_CodesetTexts.j0 k a0 a1 t377 t378 true)) else (intermedelaw12_CodesetTexts.j0 k a0 a1 t377 t378 true)) = some r := H
          have A24 := Aside0.mk A240
          clear A240
          by_cases c25 : t385 = true
          · subst c25
            have H1 : (if t378 = t382 then ((codeset_Name.f a0).bind fun t386 => ((intermederef12_Name.f a0).bind fun t387 => (intermedelaw12_CodesetTexts.j0 k a0 a1 t377 t378 (t386.toList != t387.toList)))) else (intermedelaw12_CodesetTexts.j0 k a0 a1 t377 t378 true)) = some r := by rw [if_pos rfl] at H; exact H
            clear H
            have H := H1
            clear H1
            by_cases c26 : t378 = t382
            · rw [if_pos c26] at H
              have c26b0 : (t378 == t382) = true := beq_iff_eq.mpr c26
              have c26b1 : (t378 != t382) = false := bne_eq_false_iff_eq.mpr c26
              clear c26
              replace H := Option.bind_eq_some_iff.mp H
              obtain ⟨t386, A270, H⟩ := H
              replace H : ((intermederef12_Name.f a0).bind fun t387 => (intermedelaw12_CodesetTexts.j0 k a0 a1 t377 t378 (t386.toList != t387.toList))) = some r := H
              have A27 := Aside0.mk A270
              clear A270
              replace H := Option.bind_eq_some_iff.mp H
              obtain ⟨t387, A280, H⟩ := H
              replace H : (intermedelaw12_CodesetTexts.j0 k a0 a1 t377 t378 (t386.toList != t387.toList)) = some r := H
              have A28 := Aside0.mk A280
              clear A280
              have H' := Aside0.mk H
              clear H
              obtain ⟨Ao29, co29, eo29⟩ := Kd.R_slice HO380.out
              subst eo29
              obtain ⟨Ao30, co30, eo30⟩ := Kd.R_slice HO384.out
              subst eo30
              go_wp2_with (first | (go_at_call 17; (with_reducible refine (intermederef12_SameInts.calls k _ _ t377 _ _ t381 true _ ?side1 ?side2 ?side3 ?side4 A24.out).mono ?_); (case side1 => repeat (first | exact (Kd.R_reads' HO380.out).2.2 | (with_reducible refine Kd.C_alloc ?_ _) | (with_reducible refine Kd.C_drewN ?_ _) | (with_reducible refine Kd.C_drew ?_))); (case side2 => exact (Kd.R_reads' HO380.out).2.1); (case side3 => repeat (first | exact (Kd.R_reads' HO384.out).2.2 | (with_reducible refine Kd.C_alloc ?_ _) | (with_reducible refine Kd.C_drewN ?_ _) | (with_reducible refine Kd.C_drew ?_))); (case side4 => exact (Kd.R_reads' HO384.out).2.1); rintro e w' ⟨rfl, ⟨nd, rfl⟩⟩) | (go_at_call 22; (with_reducible refine (codeset_Name.calls a0 t386 _ A27.out).mono ?_); rintro e w31 ⟨rfl, hb⟩; have n0_ := Aside0.mk (Kd.R_below (by (with_reducible repeat (first | apply Kd.R_alloc | apply Kd.R_drewN | apply Kd.R_drew)); exact HO370.out) hb); have n1_ := Aside0.mk (Kd.R_below (by (with_reducible repeat (first | apply Kd.R_alloc | apply Kd.R_drewN | apply Kd.R_drew)); exact HO380.out) hb); have n2_ := Aside0.mk (Kd.R_below (by (with_reducible repeat (first | apply Kd.R_alloc | apply Kd.R_drewN | apply Kd.R_drew)); exact HO384.out) hb); have n3_ := Aside0.mk (below_step (by repeat (first | (with_reducible first | exact HB.out | apply below_alloc | apply pw_below_drewN | apply below_drew1) | exact HB.out)) hb); clear HO370; clear HO380; clear HO384; clear HB; have HO370 := n0_; have HO380 := n1_; have HO384 := n2_; have HB := n3_; clear n0_ n1_ n2_ n3_; (try clear hb); (try clear hb2); (try clear hk); (try clear hi)) | (go_at_call 23; (with_reducible refine (intermederef12_Name.calls a0 t387 _ A28.out).mono ?_); rintro e w' ⟨rfl, ⟨nd, rfl⟩⟩))
              go_meet
              case rel => exact ⟨_, ((t386.toList != t387.toList)), (by first | rfl | (simp; done) | (simp [*]; done)), H', ⟨by first | omega | exact Nat.le_refl _⟩, ⟨by (with_reducible repeat (first | apply Kd.R_alloc | apply Kd.R_drewN | apply Kd.R_drew)); exact Kd.R_mono HO380.out (fun _ hk => trivial)⟩, ⟨by repeat (first | (with_reducible first | exact HB.out | apply below_alloc | apply pw_below_drewN | apply below_drew1) | exact HB.out)⟩⟩
            · rw [if_neg c26] at H
              have c26b0 : (t378 == t382) = false := beq_eq_false_iff_ne.mpr c26
              have c26b1 : (t378 != t382) = true := bne_iff_ne.mpr c26
              have H' := Aside0.mk H
              clear H
              obtain ⟨Ao32, co32, eo32⟩ := Kd.R_slice HO380.out
              subst eo32
              obtain ⟨Ao33, co33, eo33⟩ := Kd.R_slice HO384.out
              subst eo33
              go_wp2_with (first | (go_at_call 17; (with_reducible refine (intermederef12_SameInts.calls k _ _ t377 _ _ t381 true _ ?side1 ?side2 ?side3 ?side4 A24.out).mono ?_); (case side1 => repeat (first | exact (Kd.R_reads' HO380.out).2.2 | (with_reducible refine Kd.C_alloc ?_ _) | (with_reducible refine Kd.C_drewN ?_ _) | (with_reducible refine Kd.C_drew ?_))); (case side2 => exact (Kd.R_reads' HO380.out).2.1); (case side3 => repeat (first | exact (Kd.R_reads' HO384.out).2.2 | (with_reducible refine Kd.C_alloc ?_ _) | (with_reducible refine Kd.C_drewN ?_ _) | (with_reducible refine Kd.C_drew ?_))); (case side4 => exact (Kd.R_reads' HO384.out).2.1); rintro e w' ⟨rfl, ⟨nd, rfl⟩⟩))
              go_meet
              case rel => exact ⟨_, (true), (by first | rfl | (simp; done) | (simp [*]; done)), H', ⟨by first | omega | exact Nat.le_refl _⟩, ⟨by (with_reducible repeat (first | apply Kd.R_alloc | apply Kd.R_drewN | apply Kd.R_drew)); exact Kd.R_mono HO380.out (fun _ hk => trivial)⟩, ⟨by repeat (first | (with_reducible first | exact HB.out | apply below_alloc | apply pw_below_drewN | apply below_drew1) | exact HB.out)⟩⟩
          · replace c25 := Bool.eq_false_iff.mpr c25
            subst c25
            have H1 : (intermedelaw12_CodesetTexts.j0 k a0 a1 t377 t378 true) = some r := by rw [if_neg (show ¬ (false = true) by decide)] at H; exact H
            clear H
            have H := H1
            clear H1
            have H' := Aside0.mk H
            clear H
            obtain ⟨Ao34, co34, eo34⟩ := Kd.R_slice HO380.out
            subst eo34
            obtain ⟨Ao35, co35, eo35⟩ := Kd.R_slice HO384.out
            subst eo35
            go_wp2_with (first | (go_at_call 17; (with_reducible refine (intermederef12_SameInts.calls k _ _ t377 _ _ t381 false _ ?side1 ?side2 ?side3 ?side4 A24.out).mono ?_); (case side1 => repeat (first | exact (Kd.R_reads' HO380.out).2.2 | (with_reducible refine Kd.C_alloc ?_ _) | (with_reducible refine Kd.C_drewN ?_ _) | (with_reducible refine Kd.C_drew ?_))); (case side2 => exact (Kd.R_reads' HO380.out).2.1); (case side3 => repeat (first | exact (Kd.R_reads' HO384.out).2.2 | (with_reducible refine Kd.C_alloc ?_ _) | (with_reducible refine Kd.C_drewN ?_ _) | (with_reducible refine Kd.C_drew ?_))); (case side4 => exact (Kd.R_reads' HO384.out).2.1); rintro e w' ⟨rfl, ⟨nd, rfl⟩⟩))
            go_meet
            case rel => exact ⟨_, (true), (by first | rfl | (simp; done) | (simp [*]; done)), H', ⟨by first | omega | exact Nat.le_refl _⟩, ⟨by (with_reducible repeat (first | apply Kd.R_alloc | apply Kd.R_drewN | apply Kd.R_drew)); exact Kd.R_mono HO380.out (fun _ hk => trivial)⟩, ⟨by repeat (first | (with_reducible first | exact HB.out | apply below_alloc | apply pw_below_drewN | apply below_drew1) | exact HB.out)⟩⟩
        · rw [if_neg c23] at H
          have c23b0 : (t374 == t376) = false := beq_eq_false_iff_ne.mpr c23
          have c23b1 : (t374 != t376) = true := bne_iff_ne.mpr c23
          have H' := Aside0.mk H
          clear H
          go_wp2
          go_meet
          case rel => exact ⟨_, (true), (by first | rfl | (simp; done) | (simp [*]; done)), H', ⟨by first | omega | exact Nat.le_refl _⟩, ⟨by (with_reducible repeat (first | apply Kd.R_alloc | apply Kd.R_drewN | apply Kd.R_drew)); exact Kd.R_mono HO380.out (fun _ hk => trivial)⟩, ⟨by repeat (first | (with_reducible first | exact HB.out | apply below_alloc | apply pw_below_drewN | apply below_drew1) | exact HB.out)⟩⟩
      · rw [if_neg c22] at H
        have c22b0 : (t373 == t375) = false := beq_eq_false_iff_ne.mpr c22
        have c22b1 : (t373 != t375) = true := bne_iff_ne.mpr c22
        (first | rw [c22b0] | (simp only [i64_w, i32_w]; rw [c22b0]) | skip)
        have H' := Aside0.mk H
        clear H
        go_wp2
        go_meet
        case rel => exact ⟨_, (true), (by first | rfl | (simp; done) | (simp [*]; done)), H', ⟨by first | omega | exact Nat.le_refl _⟩, ⟨by (with_reducible repeat (first | apply Kd.R_alloc | apply Kd.R_drewN | apply Kd.R_drew)); exact Kd.R_mono HO380.out (fun _ hk => trivial)⟩, ⟨by repeat (first | (with_reducible first | exact HB.out | apply below_alloc | apply pw_below_drewN | apply below_drew1) | exact HB.out)⟩⟩
    case rest =>
      clear HC14
      try clear c1
      try clear c2
      try clear p2
      try clear c4
      try clear c6
      try clear c7
      try clear c8
      try clear c13
      try clear c16
      try clear c20
      try clear c21
      try clear c22
      try clear c22b0
      try clear c22b1
      try clear c23
      try clear c23b0
      try clear c23b1
      try clear c25
      try clear c26
      try clear c26b0
      try clear c26b1
      obtain ⟨kq, x68_13, rfl, HA, HJ13, HO_9, HB⟩ := hcut
      cases kq with
      | zero => exact absurd HA.out (by simp [intermedelaw12_CodesetTexts.j0])
      | succ kj13 =>
        have H := HA.out
        clear HA
        simp only [intermedelaw12_CodesetTexts.j0] at H
        by_cases c36 : x68_13 = true
        · subst c36
          have H1 : (some false) = some r := by rw [if_pos rfl] at H; exact H
          clear H
          have H := H1
          clear H1
          obtain rfl := Option.some.inj H
          go_wp2
          go_ret
          exact ⟨by first | rfl | (simp [errW_none, errW_some] <;> rfl) | (simp [*, errW_none, errW_some] <;> rfl), by repeat (first | (with_reducible first | exact HB.out | apply below_alloc | apply pw_below_drewN | apply below_drew1) | exact HB.out)⟩
        · replace c36 := Bool.eq_false_iff.mpr c36
          subst c36
          have H1 : (if t378 = 0 then ((codeset_Text.f a0 t377).bind fun bt388 => (if bt388.2 = 0 then (if bt388.1.toList = a1.toList then ((intermedelaw12_awake.f kj13).bind fun t390 => (some t390)) else (some false)) else (some false))) else ((intermedelaw12_awake.f kj13).bind fun t391 => (some t391))) = some r := by rw [if_neg (show ¬ (false = true) by decide)] at H; exact H
          clear H
          have H := H1
          clear H1
          by_cases c37 : t378 = 0
          · rw [if_pos c37] at H
            have c37b0 : (t378 == 0) = true := beq_iff_eq.mpr c37
            have c37b1 : (t378 != 0) = false := bne_eq_false_iff_eq.mpr c37
            clear c37
            replace H := Option.bind_eq_some_iff.mp H
            obtain ⟨⟨t388, t389⟩, A380, H⟩ := H
            replace H : (if t389 = 0 then (if t388.toList = a1.toList then ((intermedelaw12_awake.f kj13).bind fun t390 => (some t390)) else (some false)) else (some false)) = some r := H
            have A38 := Aside0.mk A380
            clear A380
            by_cases c39 : t389 = 0
            · rw [if_pos c39] at H
              have c39b0 : (t389 == 0) = true := beq_iff_eq.mpr c39
              have c39b1 : (t389 != 0) = false := bne_eq_false_iff_eq.mpr c39
              clear c39
              by_cases c40 : t388.toList = a1.toList
              · rw [if_pos c40] at H
                have c40b0 : (t388.toList == a1.toList) = true := beq_iff_eq.mpr c40
                have c40b1 : (t388.toList != a1.toList) = false := bne_eq_false_iff_eq.mpr c40
                clear c40
                replace H := Option.bind_eq_some_iff.mp H
                obtain ⟨t390, A410, H⟩ := H
                replace H : (some t390) = some r := H
                have A41 := Aside0.mk A410
                clear A410
                obtain rfl := Option.some.inj H
                obtain ⟨Ao42, co42, eo42⟩ := Kd.R_slice HO_9.out
                subst eo42
                go_wp2_with (first | ((with_reducible refine gate_callee (f := 18) rfl ?_); refine goesL_ (some 75) rfl rfl Try.func18 (by kernel_rfl) rfl #[.int .i64 a0, .slice Ao42 t377.length co42] rfl (by (try simp only [List.map_toArray, List.map_cons, List.map_nil]); first | done | rfl | (simp only [List.length_drop, List.length_take]; rfl)) ?_; (with_reducible refine (codeset_Text.calls a0 _ _ t377 t388 t389 _ ?side1 ?side2 A38.out).mono ?_); (case side1 => repeat (first | exact (Kd.R_reads' HO_9.out).2.2 | (with_reducible refine Kd.C_alloc ?_ _) | (with_reducible refine Kd.C_drewN ?_ _) | (with_reducible refine Kd.C_drew ?_))); (case side2 => exact (Kd.R_reads' HO_9.out).2.1); rintro e w43 ⟨rfl, hb⟩; refine ⟨_, rfl, ?_⟩; have n0_ := Aside0.mk (Kd.R_below (by (with_reducible repeat (first | apply Kd.R_alloc | apply Kd.R_drewN | apply Kd.R_drew)); exact HO_9.out) hb); have n1_ := Aside0.mk (below_step (by repeat (first | (with_reducible first | exact HB.out | apply below_alloc | apply pw_below_drewN | apply below_drew1) | exact HB.out)) hb); clear HO_9; clear HB; have HO_9 := n0_; have HB := n1_; clear n0_ n1_; (try clear hb); (try clear hb2); (try clear hk); (try clear hi)) | (go_at_call 8; (with_reducible refine (intermedelaw12_awake.calls kj13  t390 _ A41.out).mono ?_); rintro e w44 ⟨rfl, hb⟩; have n0_ := Aside0.mk (Kd.R_below (by (with_reducible repeat (first | apply Kd.R_alloc | apply Kd.R_drewN | apply Kd.R_drew)); exact HO_9.out) hb); have n1_ := Aside0.mk (below_step (by repeat (first | (with_reducible first | exact HB.out | apply below_alloc | apply pw_below_drewN | apply below_drew1) | exact HB.out)) hb); clear HO_9; clear HB; have HO_9 := n0_; have HB := n1_; clear n0_ n1_; (try clear hb); (try clear hb2); (try clear hk); (try clear hi)))
                go_ret
                exact ⟨by first | rfl | (simp [errW_none, errW_some] <;> rfl) | (simp [*, errW_none, errW_some] <;> rfl), by repeat (first | (with_reducible first | exact HB.out | apply below_alloc | apply pw_below_drewN | apply below_drew1) | exact HB.out)⟩
              · rw [if_neg c40] at H
                have c40b0 : (t388.toList == a1.toList) = false := beq_eq_false_iff_ne.mpr c40
                have c40b1 : (t388.toList != a1.toList) = true := bne_iff_ne.mpr c40
                obtain rfl := Option.some.inj H
                obtain ⟨Ao45, co45, eo45⟩ := Kd.R_slice HO_9.out
                subst eo45
                go_wp2_with (first | ((with_reducible refine gate_callee (f := 18) rfl ?_); refine goesL_ (some 75) rfl rfl Try.func18 (by kernel_rfl) rfl #[.int .i64 a0, .slice Ao45 t377.length co45] rfl (by (try simp only [List.map_toArray, List.map_cons, List.map_nil]); first | done | rfl | (simp only [List.length_drop, List.length_take]; rfl)) ?_; (with_reducible refine (codeset_Text.calls a0 _ _ t377 t388 t389 _ ?side1 ?side2 A38.out).mono ?_); (case side1 => repeat (first | exact (Kd.R_reads' HO_9.out).2.2 | (with_reducible refine Kd.C_alloc ?_ _) | (with_reducible refine Kd.C_drewN ?_ _) | (with_reducible refine Kd.C_drew ?_))); (case side2 => exact (Kd.R_reads' HO_9.out).2.1); rintro e w46 ⟨rfl, hb⟩; refine ⟨_, rfl, ?_⟩; have n0_ := Aside0.mk (Kd.R_below (by (with_reducible repeat (first | apply Kd.R_alloc | apply Kd.R_drewN | apply Kd.R_drew)); exact HO_9.out) hb); have n1_ := Aside0.mk (below_step (by repeat (first | (with_reducible first | exact HB.out | apply below_alloc | apply pw_below_drewN | apply below_drew1) | exact HB.out)) hb); clear HO_9; clear HB; have HO_9 := n0_; have HB := n1_; clear n0_ n1_; (try clear hb); (try clear hb2); (try clear hk); (try clear hi)))
                go_ret
                exact ⟨by first | rfl | (simp [errW_none, errW_some] <;> rfl) | (simp [*, errW_none, errW_some] <;> rfl), by repeat (first | (with_reducible first | exact HB.out | apply below_alloc | apply pw_below_drewN | apply below_drew1) | exact HB.out)⟩
            · rw [if_neg c39] at H
              have c39b0 : (t389 == 0) = false := beq_eq_false_iff_ne.mpr c39
              have c39b1 : (t389 != 0) = true := bne_iff_ne.mpr c39
              obtain rfl := Option.some.inj H
              obtain ⟨Ao47, co47, eo47⟩ := Kd.R_slice HO_9.out
              subst eo47
              go_wp2_with (first | ((with_reducible refine gate_callee (f := 18) rfl ?_); refine goesL_ (some 75) rfl rfl Try.func18 (by kernel_rfl) rfl #[.int .i64 a0, .slice Ao47 t377.length co47] rfl (by (try simp only [List.map_toArray, List.map_cons, List.map_nil]); first | done | rfl | (simp only [List.length_drop, List.length_take]; rfl)) ?_; (with_reducible refine (codeset_Text.calls a0 _ _ t377 t388 t389 _ ?side1 ?side2 A38.out).mono ?_); (case side1 => repeat (first | exact (Kd.R_reads' HO_9.out).2.2 | (with_reducible refine Kd.C_alloc ?_ _) | (with_reducible refine Kd.C_drewN ?_ _) | (with_reducible refine Kd.C_drew ?_))); (case side2 => exact (Kd.R_reads' HO_9.out).2.1); rintro e w48 ⟨rfl, hb⟩; refine ⟨_, rfl, ?_⟩; have n0_ := Aside0.mk (Kd.R_below (by (with_reducible repeat (first | apply Kd.R_alloc | apply Kd.R_drewN | apply Kd.R_drew)); exact HO_9.out) hb); have n1_ := Aside0.mk (below_step (by repeat (first | (with_reducible first | exact HB.out | apply below_alloc | apply pw_below_drewN | apply below_drew1) | exact HB.out)) hb); clear HO_9; clear HB; have HO_9 := n0_; have HB := n1_; clear n0_ n1_; (try clear hb); (try clear hb2); (try clear hk); (try clear hi)))
              go_ret
              exact ⟨by first | rfl | (simp [errW_none, errW_some] <;> rfl) | (simp [*, errW_none, errW_some] <;> rfl), by repeat (first | (with_reducible first | exact HB.out | apply below_alloc | apply pw_below_drewN | apply below_drew1) | exact HB.out)⟩
          · rw [if_neg c37] at H
            have c37b0 : (t378 == 0) = false := beq_eq_false_iff_ne.mpr c37
            have c37b1 : (t378 != 0) = true := bne_iff_ne.mpr c37
            replace H := Option.bind_eq_some_iff.mp H
            obtain ⟨t391, A490, H⟩ := H
            replace H : (some t391) = some r := H
            have A49 := Aside0.mk A490
            clear A490
            obtain rfl := Option.some.inj H
            go_wp2_with (first | ((with_reducible refine gate_callee (f := 8) rfl ?_); refine goesL_ (some 71) rfl rfl Try.func8 (by kernel_rfl) rfl #[] rfl (by (try simp only [List.map_toArray, List.map_cons, List.map_nil]); first | done | rfl | (simp only [List.length_drop, List.length_take]; rfl)) ?_; (with_reducible refine (intermedelaw12_awake.calls kj13  t391 _ A49.out).mono ?_); rintro e w50 ⟨rfl, hb⟩; refine ⟨_, rfl, ?_⟩; have n0_ := Aside0.mk (Kd.R_below (by (with_reducible repeat (first | apply Kd.R_alloc | apply Kd.R_drewN | apply Kd.R_drew)); exact HO_9.out) hb); have n1_ := Aside0.mk (below_step (by repeat (first | (with_reducible first | exact HB.out | apply below_alloc | apply pw_below_drewN | apply below_drew1) | exact HB.out)) hb); clear HO_9; clear HB; have HO_9 := n0_; have HB := n1_; clear n0_ n1_; (try clear hb); (try clear hb2); (try clear hk); (try clear hi)))
            go_ret
            exact ⟨by first | rfl | (simp [errW_none, errW_some] <;> rfl) | (simp [*, errW_none, errW_some] <;> rfl), by repeat (first | (with_reducible first | exact HB.out | apply below_alloc | apply pw_below_drewN | apply below_drew1) | exact HB.out)⟩

/-- THE ONE PURE STATEMENT of intermedelaw12_CodesetTexts: yours. -/
def intermedelaw12_CodesetTexts.Pure : Prop := ∀ (a0 : Int) (a1 : ByteArray), (Lit.int .i64 a0).wf = true → a1.size ≤ 140737488351232 → ∃ k, intermedelaw12_CodesetTexts.f k a0 a1 = some true
theorem intermedelaw12_CodesetTexts.walk (P : intermedelaw12_CodesetTexts.Pure) (a0 : Int) (a1 : ByteArray) (w : World) (w0 : (Lit.int .i64 a0).wf = true) (w1 : a1.size ≤ 140737488351232) :
    Calls Try.prog 6 #[.int .i64 a0, .string a1] w fun e w' => e = .returned (.bool true) ∧ Below w.heap.size w w' := by
  obtain ⟨k, h⟩ := P a0 a1 w0 w1
  refine (intermedelaw12_CodesetTexts.calls k a0 a1 true w h).mono ?_
  rintro e w' ⟨rfl, hd⟩
  exact ⟨rfl, hd⟩

end Go.Proofs.Yteioboechlnogaa.P
