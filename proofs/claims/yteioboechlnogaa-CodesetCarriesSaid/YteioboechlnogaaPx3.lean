-- WRITTEN BY wip/tools/gprint.py, a program of this repo, for this claim.
import Derived.Test.YteioboechlnogaaPx0
import Derived.Test.YteioboechlnogaaPx2
namespace Go.Proofs.Yteioboechlnogaa.P
open Go.RowKit Go.Proofs.YteioboechlnogaaW.PrintWords Go.Proofs.YteioboechlnogaaW.PrintLast Go.Proofs.YteioboechlnogaaW.PrintMore
attribute [local go_sem] max2_int min2_int max_two min_two max_three min_three max_four min_four   -- for this text's walks alone
set_option linter.unusedVariables false
set_option linter.unusedSimpArgs false

/-! ### intermederef12_first: function 44 -/
mutual
def intermederef12_first.j0 : Nat → Int → ByteArray → Int → Int → Int → Int → Bool → Option (Int × Int × Bool)
  | 0, _, _, _, _, _, _, _ => none
  | k + 1, x0, x1, x4, x5, x7, x14, x15 => if x15 = true then (if (x1.size : Int) < 1 then (some (0, 0, false)) else ((intermederef12_Sign.f k x0 x7).bind fun bt165 => (if bt165.2 = true then (if 0 ≤ 1 then (if 1 ≤ (x1.size : Int) then (some (x7, 1, (bt165.1.toList == (x1.extract 0 1).toList))) else (none)) else (none)) else (some (x7, 1, false))))) else (if x14 = 5 then (if x7 ≥ 128 then (if (x1.size : Int) < 1 then (some (0, 0, false)) else ((intermederef12_Sign.f k x0 (wrap64 (x7 + 772))).bind fun bt167 => (if bt167.2 = true then (if 0 ≤ 1 then (if 1 ≤ (x1.size : Int) then (some (wrap64 (x7 + 772), 1, (bt167.1.toList == (x1.extract 0 1).toList))) else (none)) else (none)) else (some (wrap64 (x7 + 772), 1, false))))) else (if (x1.size : Int) < 1 then (some (0, 0, false)) else ((intermederef12_Sign.f k x0 x7).bind fun bt169 => (if bt169.2 = true then (if 0 ≤ 1 then (if 1 ≤ (x1.size : Int) then (some (x7, 1, (bt169.1.toList == (x1.extract 0 1).toList))) else (none)) else (none)) else (some (x7, 1, false)))))) else (if x14 = 4 then ((intermederef12_at.f x1 1).bind fun t171 => (if (wrap64 ((wrap64 (x7 * 256)) + t171)) ≥ 55296 then (intermederef12_first.j1 k x0 x1 (wrap64 ((wrap64 (x7 * 256)) + t171)) 2 (decide ((wrap64 ((wrap64 (x7 * 256)) + t171)) ≤ 56319))) else (intermederef12_first.j1 k x0 x1 (wrap64 ((wrap64 (x7 * 256)) + t171)) 2 false))) else (if x14 = 3 then ((intermederef12_at.f x1 1).bind fun t178 => ((intermederef12_at.f x1 2).bind fun t179 => ((intermederef12_at.f x1 3).bind fun t180 => (if x7 < 128 then (if (x1.size : Int) < 1 then (some (0, 0, false)) else ((intermederef12_Sign.f k x0 x7).bind fun bt181 => (if bt181.2 = true then (if 0 ≤ 1 then (if 1 ≤ (x1.size : Int) then (some (x7, 1, (bt181.1.toList == (x1.extract 0 1).toList))) else (none)) else (none)) else (some (x7, 1, false))))) else (if x7 < 224 then (if (x1.size : Int) < 2 then (some (0, 0, false)) else ((intermederef12_Sign.f k x0 (wrap64 ((wrap64 ((Int.tmod x7 32) * 64)) + (Int.tmod t178 64)))).bind fun bt183 => (if bt183.2 = true then (if 0 ≤ 2 then (if 2 ≤ (x1.size : Int) then (some (wrap64 ((wrap64 ((Int.tmod x7 32) * 64)) + (Int.tmod t178 64)), 2, (bt183.1.toList == (x1.extract 0 2).toList))) else (none)) else (none)) else (some (wrap64 ((wrap64 ((Int.tmod x7 32) * 64)) + (Int.tmod t178 64)), 2, false))))) else (if x7 < 240 then (if (x1.size : Int) < 3 then (some (0, 0, false)) else ((intermederef12_Sign.f k x0 (wrap64 ((wrap64 ((wrap64 ((Int.tmod x7 16) * 4096)) + (wrap64 ((Int.tmod t178 64) * 64)))) + (Int.tmod t179 64)))).bind fun bt185 => (if bt185.2 = true then (if 0 ≤ 3 then (if 3 ≤ (x1.size : Int) then (some (wrap64 ((wrap64 ((wrap64 ((Int.tmod x7 16) * 4096)) + (wrap64 ((Int.tmod t178 64) * 64)))) + (Int.tmod t179 64)), 3, (bt185.1.toList == (x1.extract 0 3).toList))) else (none)) else (none)) else (some (wrap64 ((wrap64 ((wrap64 ((Int.tmod x7 16) * 4096)) + (wrap64 ((Int.tmod t178 64) * 64)))) + (Int.tmod t179 64)), 3, false))))) else (if (x1.size : Int) < 4 then (some (0, 0, false)) else ((intermederef12_Sign.f k x0 (wrap64 ((wrap64 ((wrap64 ((wrap64 ((Int.tmod x7 8) * 262144)) + (wrap64 ((Int.tmod t178 64) * 4096)))) + (wrap64 ((Int.tmod t179 64) * 64)))) + (Int.tmod t180 64)))).bind fun bt187 => (if bt187.2 = true then (if 0 ≤ 4 then (if 4 ≤ (x1.size : Int) then (some (wrap64 ((wrap64 ((wrap64 ((wrap64 ((Int.tmod x7 8) * 262144)) + (wrap64 ((Int.tmod t178 64) * 4096)))) + (wrap64 ((Int.tmod t179 64) * 64)))) + (Int.tmod t180 64)), 4, (bt187.1.toList == (x1.extract 0 4).toList))) else (none)) else (none)) else (some (wrap64 ((wrap64 ((wrap64 ((wrap64 ((Int.tmod x7 8) * 262144)) + (wrap64 ((Int.tmod t178 64) * 4096)))) + (wrap64 ((Int.tmod t179 64) * 64)))) + (Int.tmod t180 64)), 4, false))))))))))) else (if (x1.size : Int) < x5 then (some (0, 0, false)) else ((intermederef12_Sign.f k x0 x4).bind fun bt189 => (if bt189.2 = true then (if 0 ≤ x5 then (if x5 ≤ (x1.size : Int) then (some (x4, x5, (bt189.1.toList == (x1.extract 0 (x5 : Int).toNat).toList))) else (none)) else (none)) else (some (x4, x5, false))))))))
def intermederef12_first.j1 : Nat → Int → ByteArray → Int → Int → Bool → Option (Int × Int × Bool)
  | 0, _, _, _, _, _ => none
  | k + 1, x0, x1, x4, x5, x38 => if x38 = true then ((intermederef12_at.f x1 2).bind fun t172 => ((intermederef12_at.f x1 3).bind fun t173 => (if (x1.size : Int) < 4 then (some (0, 0, false)) else ((intermederef12_Sign.f k x0 (wrap64 ((wrap64 ((wrap64 ((wrap64 (65536 + (wrap64 ((wrap64 (x4 - 55296)) * 1024)))) + (wrap64 (t172 * 256)))) + t173)) - 56320))).bind fun bt174 => (if bt174.2 = true then (if 0 ≤ 4 then (if 4 ≤ (x1.size : Int) then (some (wrap64 ((wrap64 ((wrap64 ((wrap64 (65536 + (wrap64 ((wrap64 (x4 - 55296)) * 1024)))) + (wrap64 (t172 * 256)))) + t173)) - 56320), 4, (bt174.1.toList == (x1.extract 0 4).toList))) else (none)) else (none)) else (some (wrap64 ((wrap64 ((wrap64 ((wrap64 (65536 + (wrap64 ((wrap64 (x4 - 55296)) * 1024)))) + (wrap64 (t172 * 256)))) + t173)) - 56320), 4, false))))))) else (if (x1.size : Int) < x5 then (some (0, 0, false)) else ((intermederef12_Sign.f k x0 x4).bind fun bt176 => (if bt176.2 = true then (if 0 ≤ x5 then (if x5 ≤ (x1.size : Int) then (some (x4, x5, (bt176.1.toList == (x1.extract 0 (x5 : Int).toNat).toList))) else (none)) else (none)) else (some (x4, x5, false)))))
end
def intermederef12_first.f (k : Nat) (a0 : Int) (a1 : ByteArray) : Option (Int × Int × Bool) := (intermederef12_at.f a1 0).bind fun t164 => (if a0 = 1 then (intermederef12_first.j0 k a0 a1 0 0 t164 a0 (a0 == 1)) else (intermederef12_first.j0 k a0 a1 0 0 t164 a0 (a0 == 2)))
theorem intermederef12_first.mono_l : ∀ k, (∀ y0 y1 y2 y3 y4 y5 y6, LeO (intermederef12_first.j0 k y0 y1 y2 y3 y4 y5 y6) (intermederef12_first.j0 (k + 1) y0 y1 y2 y3 y4 y5 y6)) ∧ (∀ y0 y1 y2 y3 y4, LeO (intermederef12_first.j1 k y0 y1 y2 y3 y4) (intermederef12_first.j1 (k + 1) y0 y1 y2 y3 y4))
  | 0 => ⟨fun _ _ _ _ _ _ _ r h => by simp [intermederef12_first.j0] at h, fun _ _ _ _ _ r h => by simp [intermederef12_first.j1] at h⟩
  | k + 1 => by
    obtain ⟨ih0, ih1⟩ := intermederef12_first.mono_l k
    refine ⟨?_, ?_⟩
    · intro y0 y1 y2 y3 y4 y5 y6
      unfold intermederef12_first.j0
      repeat' first
      | (with_reducible exact ih0 _ _ _ _ _ _ _)
      | (with_reducible exact ih1 _ _ _ _ _)
      | (with_reducible exact intermederef12_Sign.mono _ _ _)
      | (with_reducible exact LeO.refl _)
      | (with_reducible exact LeO.none _)
      | (with_reducible refine LeO.ite ?_ ?_)
      | (with_reducible refine LeO.bind ?_ (fun _ => ?_))
      | exact ih0 _ _ _ _ _ _ _
      | exact ih1 _ _ _ _ _
      | exact intermederef12_Sign.mono _ _ _
      | exact LeO.none _
      | refine LeO.ite ?_ ?_
      | refine LeO.bind ?_ (fun _ => ?_)
    · intro y0 y1 y2 y3 y4
      unfold intermederef12_first.j1
      repeat' first
      | (with_reducible exact ih0 _ _ _ _ _ _ _)
      | (with_reducible exact ih1 _ _ _ _ _)
      | (with_reducible exact intermederef12_Sign.mono _ _ _)
      | (with_reducible exact LeO.refl _)
      | (with_reducible exact LeO.none _)
      | (with_reducible refine LeO.ite ?_ ?_)
      | (with_reducible refine LeO.bind ?_ (fun _ => ?_))
      | exact ih0 _ _ _ _ _ _ _
      | exact ih1 _ _ _ _ _
      | exact intermederef12_Sign.mono _ _ _
      | exact LeO.none _
      | refine LeO.ite ?_ ?_
      | refine LeO.bind ?_ (fun _ => ?_)
theorem intermederef12_first.mono : ∀ a0 a1 k, LeO (intermederef12_first.f k a0 a1) (intermederef12_first.f (k + 1) a0 a1) := by
  intro a0 a1 k
  obtain ⟨ih0, ih1⟩ := intermederef12_first.mono_l k
  unfold intermederef12_first.f
  repeat' first
      | (with_reducible exact ih0 _ _ _ _ _ _ _)
      | (with_reducible exact ih1 _ _ _ _ _)
      | (with_reducible exact intermederef12_Sign.mono _ _ _)
      | (with_reducible exact LeO.refl _)
      | (with_reducible exact LeO.none _)
      | (with_reducible refine LeO.ite ?_ ?_)
      | (with_reducible refine LeO.bind ?_ (fun _ => ?_))
      | exact ih0 _ _ _ _ _ _ _
      | exact ih1 _ _ _ _ _
      | exact intermederef12_Sign.mono _ _ _
      | exact LeO.none _
      | refine LeO.ite ?_ ?_
      | refine LeO.bind ?_ (fun _ => ?_)
set_option maxHeartbeats 8000000 in
set_option maxRecDepth 100000 in
theorem intermederef12_first.calls (k : Nat) (a0 : Int) (a1 : ByteArray) (r1 : Int) (r2 : Int) (r3 : Bool) (w : World) (h : intermederef12_first.f k a0 a1 = some (r1, r2, r3)) :
    Calls Try.prog 44 #[.int .i64 a0, .string a1] w fun e w' => e = .returned (.tuple #[.int .i64 r1, .int .i64 r2, .bool r3]) ∧ Below w.heap.size w w' := by
  have HB := Aside0.mk (Below.refl w.heap.size w)
  have H : ((intermederef12_at.f a1 0).bind fun t164 => (if a0 = 1 then (intermederef12_first.j0 k a0 a1 0 0 t164 a0 (a0 == 1)) else (intermederef12_first.j0 k a0 a1 0 0 t164 a0 (a0 == 2)))) = some (r1, r2, r3) := h
  clear h
  replace H := Option.bind_eq_some_iff.mp H
  obtain ⟨t164, A30, H⟩ := H
  replace H : (if a0 = 1 then (intermederef12_first.j0 k a0 a1 0 0 t164 a0 (a0 == 1)) else (intermederef12_first.j0 k a0 a1 0 0 t164 a0 (a0 == 2))) = some (r1, r2, r3) := H
  have A3 := Aside0.mk A30
  clear A30
  have HC4 := Aside0.mk H
  clear H
  go_enter Try.func44, Try.ntmps44
  go_upto_if 15 with (first | (go_at_call 49; (with_reducible refine (intermederef12_at.calls a1 0 t164 _ A3.out).mono ?_); rintro e w' ⟨rfl, ⟨nd, rfl⟩⟩; (try first | exact ⟨rfl, _, World.drewN_drewN _ _ _⟩ | exact ⟨rfl, _, Eq.trans (World.drewN_drewN _ _ _) (congrArg (World.drewN _) (Nat.add_assoc _ _ _))⟩)))
  repeat (go_quiet (first | (go_at_call 49; (with_reducible refine (intermederef12_at.calls a1 0 t164 _ A3.out).mono ?_); rintro e w' ⟨rfl, ⟨nd, rfl⟩⟩; (try first | exact ⟨rfl, _, World.drewN_drewN _ _ _⟩ | exact ⟨rfl, _, Eq.trans (World.drewN_drewN _ _ _) (congrArg (World.drewN _) (Nat.add_assoc _ _ _))⟩))); go_upto_if 15 with (first | (go_at_call 49; (with_reducible refine (intermederef12_at.calls a1 0 t164 _ A3.out).mono ?_); rintro e w' ⟨rfl, ⟨nd, rfl⟩⟩; (try first | exact ⟨rfl, _, World.drewN_drewN _ _ _⟩ | exact ⟨rfl, _, Eq.trans (World.drewN_drewN _ _ _) (congrArg (World.drewN _) (Nat.add_assoc _ _ _))⟩))))
  (try simp only [Act.put, List.setIfInBounds_toArray, List.set_cons_zero, List.set_cons_succ])
  go_cut [15] (fun v15 wc => ∃ (kq : Nat) (x15_3 : Bool), v15 = .bool x15_3 ∧ Aside0 (intermederef12_first.j0 kq a0 a1 0 0 t164 a0 x15_3 = some (r1, r2, r3)) ∧ Aside0 (kq ≤ k) ∧ Aside0 (Below w.heap.size w wc))
  case first =>
    have H := HC4.out
    clear HC4
    by_cases c5 : a0 = 1
    · rw [if_pos c5] at H
      have c5b0 : (a0 == 1) = true := beq_iff_eq.mpr c5
      have c5b1 : (a0 != 1) = false := bne_eq_false_iff_eq.mpr c5
      clear c5
      (first | rw [c5b0] | (simp only [i64_w, i32_w]; rw [c5b0]) | skip)
      have H' := Aside0.mk H
      clear H
      go_wp2
      repeat (go_quiet (fail); try go_wp2)
      go_meet
      case rel => exact ⟨_, ((a0 == 1)), (by first | rfl | (simp; done) | (simp [*]; done)), H', ⟨by first | omega | exact Nat.le_refl _⟩, ⟨by repeat (first | (with_reducible first | exact HB.out | apply below_alloc | apply pw_below_drewN | apply below_drew1) | exact HB.out)⟩⟩
    · rw [if_neg c5] at H
      have c5b0 : (a0 == 1) = false := beq_eq_false_iff_ne.mpr c5
      have c5b1 : (a0 != 1) = true := bne_iff_ne.mpr c5
      (first | rw [c5b0] | (simp only [i64_w, i32_w]; rw [c5b0]) | skip)
      have H' := Aside0.mk H
      clear H
      go_wp2
      repeat (go_quiet (fail); try go_wp2)
      go_meet
      case rel => exact ⟨_, ((a0 == 2)), (by first | rfl | (simp; done) | (simp [*]; done)), H', ⟨by first | omega | exact Nat.le_refl _⟩, ⟨by repeat (first | (with_reducible first | exact HB.out | apply below_alloc | apply pw_below_drewN | apply below_drew1) | exact HB.out)⟩⟩
  case rest =>
    clear HC4
    try clear p2
    try clear c4
    try clear c5
    try clear c5b0
    try clear c5b1
    obtain ⟨kq, x15_3, rfl, HA, HJ3, HB⟩ := hcut
    cases kq with
    | zero => exact absurd HA.out (by simp [intermederef12_first.j0])
    | succ kj3 =>
      have H := HA.out
      clear HA
      simp only [intermederef12_first.j0] at H
      by_cases c6 : x15_3 = true
      · subst c6
        have H1 : (if (a1.size : Int) < 1 then (some (0, 0, false)) else ((intermederef12_Sign.f kj3 a0 t164).bind fun bt165 => (if bt165.2 = true then (if 0 ≤ 1 then (if 1 ≤ (a1.size : Int) then (some (t164, 1, (bt165.1.toList == (a1.extract 0 1).toList))) else (none)) else (none)) else (some (t164, 1, false))))) = some (r1, r2, r3) := by rw [if_pos rfl] at H; exact H
        clear H
        have H := H1
        clear H1
        by_cases c7 : (a1.size : Int) < 1
        · rw [if_pos c7] at H
          have c7b0 : decide ((a1.size : Int) < 1) = true := decide_eq_true c7
          have c7b1 : decide (a1.size < 1) = true := decide_eq_true (by omega)
          clear c7
          simp only [Option.some.injEq, Prod.mk.injEq] at H
          obtain ⟨rfl, rfl, rfl⟩ := H
          go_wp2
          repeat (go_quiet (fail); try go_wp2)
          go_ret3
          exact ⟨by first | rfl | (simp [errW_none, errW_some] <;> rfl) | (simp [*, errW_none, errW_some] <;> rfl), by repeat (first | (with_reducible first | exact HB.out | apply below_alloc | apply pw_below_drewN | apply below_drew1) | exact HB.out)⟩
        · rw [if_neg c7] at H
          have c7b0 : decide ((a1.size : Int) < 1) = false := decide_eq_false c7
          have c7b1 : decide (a1.size < 1) = false := decide_eq_false (by omega)
          clear c7
          replace H := Option.bind_eq_some_iff.mp H
          obtain ⟨⟨t165, t166⟩, A80, H⟩ := H
          replace H : (if t166 = true then (if 0 ≤ 1 then (if 1 ≤ (a1.size : Int) then (some (t164, 1, (t165.toList == (a1.extract 0 1).toList))) else (none)) else (none)) else (some (t164, 1, false))) = some (r1, r2, r3) := H
          have A8 := Aside0.mk A80
          clear A80
          by_cases c9 : t166 = true
          · subst c9
            have H1 : (if 0 ≤ 1 then (if 1 ≤ (a1.size : Int) then (some (t164, 1, (t165.toList == (a1.extract 0 1).toList))) else (none)) else (none)) = some (r1, r2, r3) := by rw [if_pos rfl] at H; exact H
            clear H
            have H := H1
            clear H1
            by_cases c10 : 0 ≤ 1
            · rw [if_pos c10] at H
              have c10b0 := eq_true c10
              have c10b1 : decide (0 ≤ 1) = true := decide_eq_true c10
              clear c10
              by_cases c11 : 1 ≤ (a1.size : Int)
              · rw [if_pos c11] at H
                have c11b0 := eq_true c11
                have c11b1 : decide (1 ≤ (a1.size : Int)) = true := decide_eq_true c11
                clear c11
                simp only [Option.some.injEq, Prod.mk.injEq] at H
                obtain ⟨rfl, rfl, rfl⟩ := H
                go_wp2_with (first | (go_at_call 34; (with_reducible refine (intermederef12_Sign.calls kj3 a0 t164 t165 true _ A8.out).mono ?_); rintro e w12 ⟨rfl, hb⟩; have n0_ := Aside0.mk (below_step (by repeat (first | (with_reducible first | exact HB.out | apply below_alloc | apply pw_below_drewN | apply below_drew1) | exact HB.out)) hb); clear HB; have HB := n0_; clear n0_; (try clear hb); (try clear hb2); (try clear hk); (try clear hi)))
                repeat (go_quiet (first | (go_at_call 34; (with_reducible refine (intermederef12_Sign.calls kj3 a0 t164 t165 true _ A8.out).mono ?_); rintro e w12 ⟨rfl, hb⟩; have n0_ := Aside0.mk (below_step (by repeat (first | (with_reducible first | exact HB.out | apply below_alloc | apply pw_below_drewN | apply below_drew1) | exact HB.out)) hb); clear HB; have HB := n0_; clear n0_; (try clear hb); (try clear hb2); (try clear hk); (try clear hi))); try go_wp2_with (first | (go_at_call 34; (with_reducible refine (intermederef12_Sign.calls kj3 a0 t164 t165 true _ A8.out).mono ?_); rintro e w12 ⟨rfl, hb⟩; have n0_ := Aside0.mk (below_step (by repeat (first | (with_reducible first | exact HB.out | apply below_alloc | apply pw_below_drewN | apply below_drew1) | exact HB.out)) hb); clear HB; have HB := n0_; clear n0_; (try clear hb); (try clear hb2); (try clear hk); (try clear hi))))
                go_ret3
                exact ⟨by first | rfl | (simp [errW_none, errW_some] <;> rfl) | (simp [*, errW_none, errW_some] <;> rfl), by repeat (first | (with_reducible first | exact HB.out | apply below_alloc | apply pw_below_drewN | apply below_drew1) | exact HB.out)⟩
              · rw [if_neg c11] at H
                exact absurd H (by simp)
            · rw [if_neg c10] at H
              exact absurd H (by simp)
          · replace c9 := Bool.eq_false_iff.mpr c9
            subst c9
            have H1 : (some (t164, 1, false)) = some (r1, r2, r3) := by rw [if_neg (show ¬ (false = true) by decide)] at H; exact H
            clear H
            have H := H1
            clear H1
            simp only [Option.some.injEq, Prod.mk.injEq] at H
            obtain ⟨rfl, rfl, rfl⟩ := H
            go_wp2_with (first | (go_at_call 34; (with_reducible refine (intermederef12_Sign.calls kj3 a0 t164 t165 false _ A8.out).mono ?_); rintro e w13 ⟨rfl, hb⟩; have n0_ := Aside0.mk (below_step (by repeat (first | (with_reducible first | exact HB.out | apply below_alloc | apply pw_below_drewN | apply below_drew1) | exact HB.out)) hb); clear HB; have HB := n0_; clear n0_; (try clear hb); (try clear hb2); (try clear hk); (try clear hi)))
            repeat (go_quiet (first | (go_at_call 34; (with_reducible refine (intermederef12_Sign.calls kj3 a0 t164 t165 false _ A8.out).mono ?_); rintro e w13 ⟨rfl, hb⟩; have n0_ := Aside0.mk (below_step (by repeat (first | (with_reducible first | exact HB.out | apply below_alloc | apply pw_below_drewN | apply below_drew1) | exact HB.out)) hb); clear HB; have HB := n0_; clear n0_; (try clear hb); (try clear hb2); (try clear hk); (try clear hi))); try go_wp2_with (first | (go_at_call 34; (with_reducible refine (intermederef12_Sign.calls kj3 a0 t164 t165 false _ A8.out).mono ?_); rintro e w13 ⟨rfl, hb⟩; have n0_ := Aside0.mk (below_step (by repeat (first | (with_reducible first | exact HB.out | apply below_alloc | apply pw_below_drewN | apply below_drew1) | exact HB.out)) hb); clear HB; have HB := n0_; clear n0_; (try clear hb); (try clear hb2); (try clear hk); (try clear hi))))
            go_ret3
            exact ⟨by first | rfl | (simp [errW_none, errW_some] <;> rfl) | (simp [*, errW_none, errW_some] <;> rfl), by repeat (first | (with_reducible first | exact HB.out | apply below_alloc | apply pw_below_drewN | apply below_drew1) | exact HB.out)⟩
      · replace c6 := Bool.eq_false_iff.mpr c6
        subst c6
        have H1 : (if a0 = 5 then (if t164 ≥ 128 then (if (a1.size : Int) < 1 then (some (0, 0, false)) else ((intermederef12_Sign.f kj3 a0 (wrap64 (t164 + 772))).bind fun bt167 => (if bt167.2 = true then (if 0 ≤ 1 then (if 1 ≤ (a1.size : Int) then (some (wrap64 (t164 + 772), 1, (bt167.1.toList == (a1.extract 0 1).toList))) else (none)) else (none)) else (some (wrap64 (t164 + 772), 1, false))))) else (if (a1.size : Int) < 1 then (some (0, 0, false)) else ((intermederef12_Sign.f kj3 a0 t164).bind fun bt169 => (if bt169.2 = true then (if 0 ≤ 1 then (if 1 ≤ (a1.size : Int) then (some (t164, 1, (bt169.1.toList == (a1.extract 0 1).toList))) else (none)) else (none)) else (some (t164, 1, false)))))) else (if a0 = 4 then ((intermederef12_at.f a1 1).bind fun t171 => (if (wrap64 ((wrap64 (t164 * 256)) + t171)) ≥ 55296 then (intermederef12_first.j1 kj3 a0 a1 (wrap64 ((wrap64 (t164 * 256)) + t171)) 2 (decide ((wrap64 ((wrap64 (t164 * 256)) + t171)) ≤ 56319))) else (intermederef12_first.j1 kj3 a0 a1 (wrap64 ((wrap64 (t164 * 256)) + t171)) 2 false))) else (if a0 = 3 then ((intermederef12_at.f a1 1).bind fun t178 => ((intermederef12_at.f a1 2).bind fun t179 => ((intermederef12_at.f a1 3).bind fun t180 => (if t164 < 128 then (if (a1.size : Int) < 1 then (some (0, 0, false)) else ((intermederef12_Sign.f kj3 a0 t164).bind fun bt181 => (if bt181.2 = true then (if 0 ≤ 1 then (if 1 ≤ (a1.size : Int) then (some (t164, 1, (bt181.1.toList == (a1.extract 0 1).toList))) else (none)) else (none)) else (some (t164, 1, false))))) else (if t164 < 224 then (if (a1.size : Int) < 2 then (some (0, 0, false)) else ((intermederef12_Sign.f kj3 a0 (wrap64 ((wrap64 ((Int.tmod t164 32) * 64)) + (Int.tmod t178 64)))).bind fun bt183 => (if bt183.2 = true then (if 0 ≤ 2 then (if 2 ≤ (a1.size : Int) then (some (wrap64 ((wrap64 ((Int.tmod t164 32) * 64)) + (Int.tmod t178 64)), 2, (bt183.1.toList == (a1.extract 0 2).toList))) else (none)) else (none)) else (some (wrap64 ((wrap64 ((Int.tmod t164 32) * 64)) + (Int.tmod t178 64)), 2, false))))) else (if t164 < 240 then (if (a1.size : Int) < 3 then (some (0, 0, false)) else ((intermederef12_Sign.f kj3 a0 (wrap64 ((wrap64 ((wrap64 ((Int.tmod t164 16) * 4096)) + (wrap64 ((Int.tmod t178 64) * 64)))) + (Int.tmod t179 64)))).bind fun bt185 => (if bt185.2 = true then (if 0 ≤ 3 then (if 3 ≤ (a1.size : Int) then (some (wrap64 ((wrap64 ((wrap64 ((Int.tmod t164 16) * 4096)) + (wrap64 ((Int.tmod t178 64) * 64)))) + (Int.tmod t179 64)), 3, (bt185.1.toList == (a1.extract 0 3).toList))) else (none)) else (none)) else (some (wrap64 ((wrap64 ((wrap64 ((Int.tmod t164 16) * 4096)) + (wrap64 ((Int.tmod t178 64) * 64)))) + (Int.tmod t179 64)), 3, false))))) else (if (a1.size : Int) < 4 then (some (0, 0, false)) else ((intermederef12_Sign.f kj3 a0 (wrap64 ((wrap64 ((wrap64 ((wrap64 ((Int.tmod t164 8) * 262144)) + (wrap64 ((Int.tmod t178 64) * 4096)))) + (wrap64 ((Int.tmod t179 64) * 64)))) + (Int.tmod t180 64)))).bind fun bt187 => (if bt187.2 = true then (if 0 ≤ 4 then (if 4 ≤ (a1.size : Int) then (some (wrap64 ((wrap64 ((wrap64 ((wrap64 ((Int.tmod t164 8) * 262144)) + (wrap64 ((Int.tmod t178 64) * 4096)))) + (wrap64 ((Int.tmod t179 64) * 64)))) + (Int.tmod t180 64)), 4, (bt187.1.toList == (a1.extract 0 4).toList))) else (none)) else (none)) else (some (wrap64 ((wrap64 ((wrap64 ((wrap64 ((Int.tmod t164 8) * 262144)) + (wrap64 ((Int.tmod t178 64) * 4096)))) + (wrap64 ((Int.tmod t179 64) * 64)))) + (Int.tmod t180 64)), 4, false))))))))))) else (if (a1.size : Int) < 0 then (some (0, 0, false)) else ((intermederef12_Sign.f kj3 a0 0).bind fun bt189 => (if bt189.2 = true then (if 0 ≤ 0 then (if 0 ≤ (a1.size : Int) then (some (0, 0, (bt189.1.toList == (a1.extract 0 (0 : Int).toNat).toList))) else (none)) else (none)) else (some (0, 0, false)))))))) = some (r1, r2, r3) := by rw [if_neg (show ¬ (false = true) by decide)] at H; exact H
        clear H
        have H := H1
        clear H1
        by_cases c14 : a0 = 5
        · rw [if_pos c14] at H
          have c14b0 : (a0 == 5) = true := beq_iff_eq.mpr c14
          have c14b1 : (a0 != 5) = false := bne_eq_false_iff_eq.mpr c14
          clear c14
          by_cases c15 : t164 ≥ 128
          · rw [if_pos c15] at H
            have c15b0 : decide (128 ≤ t164) = true := decide_eq_true c15
            clear c15
            by_cases c16 : (a1.size : Int) < 1
            · rw [if_pos c16] at H
              have c16b0 : decide ((a1.size : Int) < 1) = true := decide_eq_true c16
              have c16b1 : decide (a1.size < 1) = true := decide_eq_true (by omega)
              clear c16
              simp only [Option.some.injEq, Prod.mk.injEq] at H
              obtain ⟨rfl, rfl, rfl⟩ := H
              go_wp2
              repeat (go_quiet (fail); try go_wp2)
              go_ret3
              exact ⟨by first | rfl | (simp [errW_none, errW_some] <;> rfl) | (simp [*, errW_none, errW_some] <;> rfl), by repeat (first | (with_reducible first | exact HB.out | apply below_alloc | apply pw_below_drewN | apply below_drew1) | exact HB.out)⟩
            · rw [if_neg c16] at H
              have c16b0 : decide ((a1.size : Int) < 1) = false := decide_eq_false c16
              have c16b1 : decide (a1.size < 1) = false := decide_eq_false (by omega)
              clear c16
              replace H := Option.bind_eq_some_iff.mp H
              obtain ⟨⟨t167, t168⟩, A170, H⟩ := H
              replace H : (if t168 = true then (if 0 ≤ 1 then (if 1 ≤ (a1.size : Int) then (some (wrap64 (t164 + 772), 1, (t167.toList == (a1.extract 0 1).toList))) else (none)) else (none)) else (some (wrap64 (t164 + 772), 1, false))) = some (r1, r2, r3) := H
              have A17 := Aside0.mk A170
              clear A170
              by_cases c18 : t168 = true
              · subst c18
                have H1 : (if 0 ≤ 1 then (if 1 ≤ (a1.size : Int) then (some (wrap64 (t164 + 772), 1, (t167.toList == (a1.extract 0 1).toList))) else (none)) else (none)) = some (r1, r2, r3) := by rw [if_pos rfl] at H; exact H
                clear H
                have H := H1
                clear H1
                by_cases c19 : 0 ≤ 1
                · rw [if_pos c19] at H
                  have c19b0 := eq_true c19
                  have c19b1 : decide (0 ≤ 1) = true := decide_eq_true c19
                  clear c19
                  by_cases c20 : 1 ≤ (a1.size : Int)
                  · rw [if_pos c20] at H
                    have c20b0 := eq_true c20
                    have c20b1 : decide (1 ≤ (a1.size : Int)) = true := decide_eq_true c20
                    clear c20
                    simp only [Option.some.injEq, Prod.mk.injEq] at H
                    obtain ⟨rfl, rfl, rfl⟩ := H
                    go_wp2_with (first | (go_at_call 34; (with_reducible refine (intermederef12_Sign.calls kj3 a0 (wrap64 (t164 + 772)) t167 true _ A17.out).mono ?_); rintro e w21 ⟨rfl, hb⟩; have n0_ := Aside0.mk (below_step (by repeat (first | (with_reducible first | exact HB.out | apply below_alloc | apply pw_below_drewN | apply below_drew1) | exact HB.out)) hb); clear HB; have HB := n0_; clear n0_; (try clear hb); (try clear hb2); (try clear hk); (try clear hi)))
                    repeat (go_quiet (first | (go_at_call 34; (with_reducible refine (intermederef12_Sign.calls kj3 a0 (wrap64 (t164 + 772)) t167 true _ A17.out).mono ?_); rintro e w21 ⟨rfl, hb⟩; have n0_ := Aside0.mk (below_step (by repeat (first | (with_reducible first | exact HB.out | apply below_alloc | apply pw_below_drewN | apply below_drew1) | exact HB.out)) hb); clear HB; have HB := n0_; clear n0_; (try clear hb); (try clear hb2); (try clear hk); (try clear hi))); try go_wp2_with (first | (go_at_call 34; (with_reducible refine (intermederef12_Sign.calls kj3 a0 (wrap64 (t164 + 772)) t167 true _ A17.out).mono ?_); rintro e w21 ⟨rfl, hb⟩; have n0_ := Aside0.mk (below_step (by repeat (first | (with_reducible first | exact HB.out | apply below_alloc | apply pw_below_drewN | apply below_drew1) | exact HB.out)) hb); clear HB; have HB := n0_; clear n0_; (try clear hb); (try clear hb2); (try clear hk); (try clear hi))))
                    go_ret3
                    exact ⟨by first | rfl | (simp [errW_none, errW_some] <;> rfl) | (simp [*, errW_none, errW_some] <;> rfl), by repeat (first | (with_reducible first | exact HB.out | apply below_alloc | apply pw_below_drewN | apply below_drew1) | exact HB.out)⟩
                  · rw [if_neg c20] at H
                    exact absurd H (by simp)
                · rw [if_neg c19] at H
                  exact absurd H (by simp)
              · replace c18 := Bool.eq_false_iff.mpr c18
                subst c18
                have H1 : (some (wrap64 (t164 + 772), 1, false)) = some (r1, r2, r3) := by rw [if_neg (show ¬ (false = true) by decide)] at H; exact H
                clear H
                have H := H1
                clear H1
                simp only [Option.some.injEq, Prod.mk.injEq] at H
                obtain ⟨rfl, rfl, rfl⟩ := H
                go_wp2_with (first | (go_at_call 34; (with_reducible refine (intermederef12_Sign.calls kj3 a0 (wrap64 (t164 + 772)) t167 false _ A17.out).mono ?_); rintro e w22 ⟨rfl, hb⟩; have n0_ := Aside0.mk (below_step (by repeat (first | (with_reducible first | exact HB.out | apply below_alloc | apply pw_below_drewN | apply below_drew1) | exact HB.out)) hb); clear HB; have HB := n0_; clear n0_; (try clear hb); (try clear hb2); (try clear hk); (try clear hi)))
                repeat (go_quiet (first | (go_at_call 34; (with_reducible refine (intermederef12_Sign.calls kj3 a0 (wrap64 (t164 + 772)) t167 false _ A17.out).mono ?_); rintro e w22 ⟨rfl, hb⟩; have n0_ := Aside0.mk (below_step (by repeat (first | (with_reducible first | exact HB.out | apply below_alloc | apply pw_below_drewN | apply below_drew1) | exact HB.out)) hb); clear HB; have HB := n0_; clear n0_; (try clear hb); (try clear hb2); (try clear hk); (try clear hi))); try go_wp2_with (first | (go_at_call 34; (with_reducible refine (intermederef12_Sign.calls kj3 a0 (wrap64 (t164 + 772)) t167 false _ A17.out).mono ?_); rintro e w22 ⟨rfl, hb⟩; have n0_ := Aside0.mk (below_step (by repeat (first | (with_reducible first | exact HB.out | apply below_alloc | apply pw_below_drewN | apply below_drew1) | exact HB.out)) hb); clear HB; have HB := n0_; clear n0_; (try clear hb); (try clear hb2); (try clear hk); (try clear hi))))
                go_ret3
                exact ⟨by first | rfl | (simp [errW_none, errW_some] <;> rfl) | (simp [*, errW_none, errW_some] <;> rfl), by repeat (first | (with_reducible first | exact HB.out | apply below_alloc | apply pw_below_drewN | apply below_drew1) | exact HB.out)⟩
          · rw [if_neg c15] at H
            have c15b0 : decide (128 ≤ t164) = false := decide_eq_false c15
            clear c15
            by_cases c23 : (a1.size : Int) < 1
            · rw [if_pos c23] at H
              have c23b0 : decide ((a1.size : Int) < 1) = true := decide_eq_true c23
              have c23b1 : decide (a1.size < 1) = true := decide_eq_true (by omega)
              clear c23
              simp only [Option.some.injEq, Prod.mk.injEq] at H
              obtain ⟨rfl, rfl, rfl⟩ := H
              go_wp2
              repeat (go_quiet (fail); try go_wp2)
              go_ret3
              exact ⟨by first | rfl | (simp [errW_none, errW_some] <;> rfl) | (simp [*, errW_none, errW_some] <;> rfl), by repeat (first | (with_reducible first | exact HB.out | apply below_alloc | apply pw_below_drewN | apply below_drew1) | exact HB.out)⟩
            · rw [if_neg c23] at H
              have c23b0 : decide ((a1.size : Int) < 1) = false := decide_eq_false c23
              have c23b1 : decide (a1.size < 1) = false := decide_eq_false (by omega)
              clear c23
              replace H := Option.bind_eq_some_iff.mp H
              obtain ⟨⟨t169, t170⟩, A240, H⟩ := H
              replace H : (if t170 = true then (if 0 ≤ 1 then (if 1 ≤ (a1.size : Int) then (some (t164, 1, (t169.toList == (a1.extract 0 1).toList))) else (none)) else (none)) else (some (t164, 1, false))) = some (r1, r2, r3) := H
              have A24 := Aside0.mk A240
              clear A240
              by_cases c25 : t170 = true
              · subst c25
                have H1 : (if 0 ≤ 1 then (if 1 ≤ (a1.size : Int) then (some (t164, 1, (t169.toList == (a1.extract 0 1).toList))) else (none)) else (none)) = some (r1, r2, r3) := by rw [if_pos rfl] at H; exact H
                clear H
                have H := H1
                clear H1
                by_cases c26 : 0 ≤ 1
                · rw [if_pos c26] at H
                  have c26b0 := eq_true c26
                  have c26b1 : decide (0 ≤ 1) = true := decide_eq_true c26
                  clear c26
                  by_cases c27 : 1 ≤ (a1.size : Int)
                  · rw [if_pos c27] at H
                    have c27b0 := eq_true c27
                    have c27b1 : decide (1 ≤ (a1.size : Int)) = true := decide_eq_true c27
                    clear c27
                    simp only [Option.some.injEq, Prod.mk.injEq] at H
                    obtain ⟨rfl, rfl, rfl⟩ := H
                    go_wp2_with (first | (go_at_call 34; (with_reducible refine (intermederef12_Sign.calls kj3 a0 t164 t169 true _ A24.out).mono ?_); rintro e w28 ⟨rfl, hb⟩; have n0_ := Aside0.mk (below_step (by repeat (first | (with_reducible first | exact HB.out | apply below_alloc | apply pw_below_drewN | apply below_drew1) | exact HB.out)) hb); clear HB; have HB := n0_; clear n0_; (try clear hb); (try clear hb2); (try clear hk); (try clear hi)))
                    repeat (go_quiet (first | (go_at_call 34; (with_reducible refine (intermederef12_Sign.calls kj3 a0 t164 t169 true _ A24.out).mono ?_); rintro e w28 ⟨rfl, hb⟩; have n0_ := Aside0.mk (below_step (by repeat (first | (with_reducible first | exact HB.out | apply below_alloc | apply pw_below_drewN | apply below_drew1) | exact HB.out)) hb); clear HB; have HB := n0_; clear n0_; (try clear hb); (try clear hb2); (try clear hk); (try clear hi))); try go_wp2_with (first | (go_at_call 34; (with_reducible refine (intermederef12_Sign.calls kj3 a0 t164 t169 true _ A24.out).mono ?_); rintro e w28 ⟨rfl, hb⟩; have n0_ := Aside0.mk (below_step (by repeat (first | (with_reducible first | exact HB.out | apply below_alloc | apply pw_below_drewN | apply below_drew1) | exact HB.out)) hb); clear HB; have HB := n0_; clear n0_; (try clear hb); (try clear hb2); (try clear hk); (try clear hi))))
                    go_ret3
                    exact ⟨by first | rfl | (simp [errW_none, errW_some] <;> rfl) | (simp [*, errW_none, errW_some] <;> rfl), by repeat (first | (with_reducible first | exact HB.out | apply below_alloc | apply pw_below_drewN | apply below_drew1) | exact HB.out)⟩
                  · rw [if_neg c27] at H
                    exact absurd H (by simp)
                · rw [if_neg c26] at H
                  exact absurd H (by simp)
              · replace c25 := Bool.eq_false_iff.mpr c25
                subst c25
                have H1 : (some (t164, 1, false)) = some (r1, r2, r3) := by rw [if_neg (show ¬ (false = true) by decide)] at H; exact H
                clear H
                have H := H1
                clear H1
                simp only [Option.some.injEq, Prod.mk.injEq] at H
                obtain ⟨rfl, rfl, rfl⟩ := H
                go_wp2_with (first | (go_at_call 34; (with_reducible refine (intermederef12_Sign.calls kj3 a0 t164 t169 false _ A24.out).mono ?_); rintro e w29 ⟨rfl, hb⟩; have n0_ := Aside0.mk (below_step (by repeat (first | (with_reducible first | exact HB.out | apply below_alloc | apply pw_below_drewN | apply below_drew1) | exact HB.out)) hb); clear HB; have HB := n0_; clear n0_; (try clear hb); (try clear hb2); (try clear hk); (try clear hi)))
                repeat (go_quiet (first | (go_at_call 34; (with_reducible refine (intermederef12_Sign.calls kj3 a0 t164 t169 false _ A24.out).mono ?_); rintro e w29 ⟨rfl, hb⟩; have n0_ := Aside0.mk (below_step (by repeat (first | (with_reducible first | exact HB.out | apply below_alloc | apply pw_below_drewN | apply below_drew1) | exact HB.out)) hb); clear HB; have HB := n0_; clear n0_; (try clear hb); (try clear hb2); (try clear hk); (try clear hi))); try go_wp2_with (first | (go_at_call 34; (with_reducible refine (intermederef12_Sign.calls kj3 a0 t164 t169 false _ A24.out).mono ?_); rintro e w29 ⟨rfl, hb⟩; have n0_ := Aside0.mk (below_step (by repeat (first | (with_reducible first | exact HB.out | apply below_alloc | apply pw_below_drewN | apply below_drew1) | exact HB.out)) hb); clear HB; have HB := n0_; clear n0_; (try clear hb); (try clear hb2); (try clear hk); (try clear hi))))
                go_ret3
                exact ⟨by first | rfl | (simp [errW_none, errW_some] <;> rfl) | (simp [*, errW_none, errW_some] <;> rfl), by repeat (first | (with_reducible first | exact HB.out | apply below_alloc | apply pw_below_drewN | apply below_drew1) | exact HB.out)⟩
        · rw [if_neg c14] at H
          have c14b0 : (a0 == 5) = false := beq_eq_false_iff_ne.mpr c14
          have c14b1 : (a0 != 5) = true := bne_iff_ne.mpr c14
          by_cases c30 : a0 = 4
          · rw [if_pos c30] at H
            have c30b0 : (a0 == 4) = true := beq_iff_eq.mpr c30
            have c30b1 : (a0 != 4) = false := bne_eq_false_iff_eq.mpr c30
            clear c30
            replace H := Option.bind_eq_some_iff.mp H
            obtain ⟨t171, A310, H⟩ := H
            replace H : (if (wrap64 ((wrap64 (t164 * 256)) + t171)) ≥ 55296 then (intermederef12_first.j1 kj3 a0 a1 (wrap64 ((wrap64 (t164 * 256)) + t171)) 2 (decide ((wrap64 ((wrap64 (t164 * 256)) + t171)) ≤ 56319))) else (intermederef12_first.j1 kj3 a0 a1 (wrap64 ((wrap64 (t164 * 256)) + t171)) 2 false)) = some (r1, r2, r3) := H
            have A31 := Aside0.mk A310
            clear A310
            have HC32 := Aside0.mk H
            clear H
            go_upto_region 12 with (first | (go_at_call 49; (with_reducible refine (intermederef12_at.calls a1 1 t171 _ A31.out).mono ?_); rintro e w' ⟨rfl, ⟨nd, rfl⟩⟩; (try first | exact ⟨rfl, _, World.drewN_drewN _ _ _⟩ | exact ⟨rfl, _, Eq.trans (World.drewN_drewN _ _ _) (congrArg (World.drewN _) (Nat.add_assoc _ _ _))⟩)))
            repeat (go_quiet (first | (go_at_call 49; (with_reducible refine (intermederef12_at.calls a1 1 t171 _ A31.out).mono ?_); rintro e w' ⟨rfl, ⟨nd, rfl⟩⟩; (try first | exact ⟨rfl, _, World.drewN_drewN _ _ _⟩ | exact ⟨rfl, _, Eq.trans (World.drewN_drewN _ _ _) (congrArg (World.drewN _) (Nat.add_assoc _ _ _))⟩))); go_upto_region 12 with (first | (go_at_call 49; (with_reducible refine (intermederef12_at.calls a1 1 t171 _ A31.out).mono ?_); rintro e w' ⟨rfl, ⟨nd, rfl⟩⟩; (try first | exact ⟨rfl, _, World.drewN_drewN _ _ _⟩ | exact ⟨rfl, _, Eq.trans (World.drewN_drewN _ _ _) (congrArg (World.drewN _) (Nat.add_assoc _ _ _))⟩))))
            (try simp only [Act.put, List.setIfInBounds_toArray, List.set_cons_zero, List.set_cons_succ])
            go_cut [38] (fun v38 wc => ∃ (kq : Nat) (x38_31 : Bool), v38 = .bool x38_31 ∧ Aside0 (intermederef12_first.j1 kq a0 a1 (wrap64 ((wrap64 (t164 * 256)) + t171)) 2 x38_31 = some (r1, r2, r3)) ∧ Aside0 (kq ≤ kj3) ∧ Aside0 (Below w.heap.size w wc))
            case first =>
              have H := HC32.out
              clear HC32
              by_cases c33 : (wrap64 ((wrap64 (t164 * 256)) + t171)) ≥ 55296
              · rw [if_pos c33] at H
                have c33b0 : decide (55296 ≤ (wrap64 ((wrap64 (t164 * 256)) + t171))) = true := decide_eq_true c33
                clear c33
                (first | rw [c33b0] | (simp only [i64_w, i32_w]; rw [c33b0]) | skip)
                have H' := Aside0.mk H
                clear H
                go_wp2
                repeat (go_quiet (fail); try go_wp2)
                go_meet
                case rel => exact ⟨_, (decide ((wrap64 ((wrap64 (t164 * 256)) + t171)) ≤ 56319)), (by first | rfl | (simp; done) | (simp [*]; done)), H', ⟨by have := HJ3.out; first | omega | exact Nat.le_refl _⟩, ⟨by repeat (first | (with_reducible first | exact HB.out | apply below_alloc | apply pw_below_drewN | apply below_drew1) | exact HB.out)⟩⟩
              · rw [if_neg c33] at H
                have c33b0 : decide (55296 ≤ (wrap64 ((wrap64 (t164 * 256)) + t171))) = false := decide_eq_false c33
                clear c33
                (first | rw [c33b0] | (simp only [i64_w, i32_w]; rw [c33b0]) | skip)
                have H' := Aside0.mk H
                clear H
                go_wp2
                repeat (go_quiet (fail); try go_wp2)
                go_meet
                case rel => exact ⟨_, (false), (by first | rfl | (simp; done) | (simp [*]; done)), H', ⟨by have := HJ3.out; first | omega | exact Nat.le_refl _⟩, ⟨by repeat (first | (with_reducible first | exact HB.out | apply below_alloc | apply pw_below_drewN | apply below_drew1) | exact HB.out)⟩⟩
            case rest =>
              clear HC32
              try clear c1
              try clear c2
              try clear p2
              try clear c3
              try clear c4
              try clear c5
              try clear c5b0
              try clear c5b1
              try clear c6
              try clear p6
              try clear c7
              try clear c7b0
              try clear c7b1
              try clear c9
              try clear c10
              try clear c10b0
              try clear c10b1
              try clear c11
              try clear c11b0
              try clear c11b1
              try clear c14
              try clear c14b0
              try clear c14b1
              try clear c15
              try clear c15b0
              try clear c16
              try clear c16b0
              try clear c16b1
              try clear c18
              try clear c19
              try clear c19b0
              try clear c19b1
              try clear c20
              try clear c20b0
              try clear c20b1
              try clear c23
              try clear c23b0
              try clear c23b1
              try clear c25
              try clear c26
              try clear c26b0
              try clear c26b1
              try clear c27
              try clear c27b0
              try clear c27b1
              try clear c30
              try clear c30b0
              try clear c30b1
              try clear c33
              try clear c33b0
              try clear p2
              obtain ⟨kq, x38_31, rfl, HA, HJ31, HB⟩ := hcut
              cases kq with
              | zero => exact absurd HA.out (by simp [intermederef12_first.j1])
              | succ kj31 =>
                have H := HA.out
                clear HA
                simp only [intermederef12_first.j1] at H
                by_cases c34 : x38_31 = true
                · subst c34
                  have H1 : ((intermederef12_at.f a1 2).bind fun t172 => ((intermederef12_at.f a1 3).bind fun t173 => (if (a1.size : Int) < 4 then (some (0, 0, false)) else ((intermederef12_Sign.f kj31 a0 (wrap64 ((wrap64 ((wrap64 ((wrap64 (65536 + (wrap64 ((wrap64 ((wrap64 ((wrap64 (t164 * 256)) + t171)) - 55296)) * 1024)))) + (wrap64 (t172 * 256)))) + t173)) - 56320))).bind fun bt174 => (if bt174.2 = true then (if 0 ≤ 4 then (if 4 ≤ (a1.size : Int) then (some (wrap64 ((wrap64 ((wrap64 ((wrap64 (65536 + (wrap64 ((wrap64 ((wrap64 ((wrap64 (t164 * 256)) + t171)) - 55296)) * 1024)))) + (wrap64 (t172 * 256)))) + t173)) - 56320), 4, (bt174.1.toList == (a1.extract 0 4).toList))) else (none)) else (none)) else (some (wrap64 ((wrap64 ((wrap64 ((wrap64 (65536 + (wrap64 ((wrap64 ((wrap64 ((wrap64 (t164 * 256)) + t171)) - 55296)) * 1024)))) + (wrap64 (t172 * 256)))) + t173)) - 56320), 4, false))))))) = some (r1, r2, r3) := by rw [if_pos rfl] at H; exact H
                  clear H
                  have H := H1
                  clear H1
                  replace H := Option.bind_eq_some_iff.mp H
                  obtain ⟨t172, A350, H⟩ := H
                  replace H : ((intermederef12_at.f a1 3).bind fun t173 => (if (a1.size : Int) < 4 then (some (0, 0, false)) else ((intermederef12_Sign.f kj31 a0 (wrap64 ((wrap64 ((wrap64 ((wrap64 (65536 + (wrap64 ((wrap64 ((wrap64 ((wrap64 (t164 * 256)) + t171)) - 55296)) * 1024)))) + (wrap64 (t172 * 256)))) + t173)) - 56320))).bind fun bt174 => (if bt174.2 = true then (if 0 ≤ 4 then (if 4 ≤ (a1.size : Int) then (some (wrap64 ((wrap64 ((wrap64 ((wrap64 (65536 + (wrap64 ((wrap64 ((wrap64 ((wrap64 (t164 * 256)) + t171)) - 55296)) * 1024)))) + (wrap64 (t172 * 256)))) + t173)) - 56320), 4, (bt174.1.toList == (a1.extract 0 4).toList))) else (none)) else (none)) else (some (wrap64 ((wrap64 ((wrap64 ((wrap64 (65536 + (wrap64 ((wrap64 ((wrap64 ((wrap64 (t164 * 256)) + t171)) - 55296)) * 1024)))) + (wrap64 (t172 * 256)))) + t173)) - 56320), 4, false)))))) = some (r1, r2, r3) := H
                  have A35 := Aside0.mk A350
                  clear A350
                  replace H := Option.bind_eq_some_iff.mp H
                  obtain ⟨t173, A360, H⟩ := H
                  replace H : (if (a1.size : Int) < 4 then (some (0, 0, false)) else ((intermederef12_Sign.f kj31 a0 (wrap64 ((wrap64 ((wrap64 ((wrap64 (65536 + (wrap64 ((wrap64 ((wrap64 ((wrap64 (t164 * 256)) + t171)) - 55296)) * 1024)))) + (wrap64 (t172 * 256)))) + t173)) - 56320))).bind fun bt174 => (if bt174.2 = true then (if 0 ≤ 4 then (if 4 ≤ (a1.size : Int) then (some (wrap64 ((wrap64 ((wrap64 ((wrap64 (65536 + (wrap64 ((wrap64 ((wrap64 ((wrap64 (t164 * 256)) + t171)) - 55296)) * 1024)))) + (wrap64 (t172 * 256)))) + t173)) - 56320), 4, (bt174.1.toList == (a1.extract 0 4).toList))) else (none)) else (none)) else (some (wrap64 ((wrap64 ((wrap64 ((wrap64 (65536 + (wrap64 ((wrap64 ((wrap64 ((wrap64 (t164 * 256)) + t171)) - 55296)) * 1024)))) + (wrap64 (t172 * 256)))) + t173)) - 56320), 4, false))))) = some (r1, r2, r3) := H
                  have A36 := Aside0.mk A360
                  clear A360
                  by_cases c37 : (a1.size : Int) < 4
                  · rw [if_pos c37] at H
                    have c37b0 : decide ((a1.size : Int) < 4) = true := decide_eq_true c37
                    have c37b1 : decide (a1.size < 4) = true := decide_eq_true (by omega)
                    clear c37
                    simp only [Option.some.injEq, Prod.mk.injEq] at H
                    obtain ⟨rfl, rfl, rfl⟩ := H
                    go_wp2_with (first | (go_at_call 49; (with_reducible refine (intermederef12_at.calls a1 2 t172 _ A35.out).mono ?_); rintro e w' ⟨rfl, ⟨nd, rfl⟩⟩; (try first | exact ⟨rfl, _, World.drewN_drewN _ _ _⟩ | exact ⟨rfl, _, Eq.trans (World.drewN_drewN _ _ _) (congrArg (World.drewN _) (Nat.add_assoc _ _ _))⟩)) | (go_at_call 49; (with_reducible refine (intermederef12_at.calls a1 3 t173 _ A36.out).mono ?_); rintro e w' ⟨rfl, ⟨nd, rfl⟩⟩; (try first | exact ⟨rfl, _, World.drewN_drewN _ _ _⟩ | exact ⟨rfl, _, Eq.trans (World.drewN_drewN _ _ _) (congrArg (World.drewN _) (Nat.add_assoc _ _ _))⟩)))
                    repeat (go_quiet (first | (go_at_call 49; (with_reducible refine (intermederef12_at.calls a1 2 t172 _ A35.out).mono ?_); rintro e w' ⟨rfl, ⟨nd, rfl⟩⟩; (try first | exact ⟨rfl, _, World.drewN_drewN _ _ _⟩ | exact ⟨rfl, _, Eq.trans (World.drewN_drewN _ _ _) (congrArg (World.drewN _) (Nat.add_assoc _ _ _))⟩)) | (go_at_call 49; (with_reducible refine (intermederef12_at.calls a1 3 t173 _ A36.out).mono ?_); rintro e w' ⟨rfl, ⟨nd, rfl⟩⟩; (try first | exact ⟨rfl, _, World.drewN_drewN _ _ _⟩ | exact ⟨rfl, _, Eq.trans (World.drewN_drewN _ _ _) (congrArg (World.drewN _) (Nat.add_assoc _ _ _))⟩))); try go_wp2_with (first | (go_at_call 49; (with_reducible refine (intermederef12_at.calls a1 2 t172 _ A35.out).mono ?_); rintro e w' ⟨rfl, ⟨nd, rfl⟩⟩; (try first | exact ⟨rfl, _, World.drewN_drewN _ _ _⟩ | exact ⟨rfl, _, Eq.trans (World.drewN_drewN _ _ _) (congrArg (World.drewN _) (Nat.add_assoc _ _ _))⟩)) | (go_at_call 49; (with_reducible refine (intermederef12_at.calls a1 3 t173 _ A36.out).mono ?_); rintro e w' ⟨rfl, ⟨nd, rfl⟩⟩; (try first | exact ⟨rfl, _, World.drewN_drewN _ _ _⟩ | exact ⟨rfl, _, Eq.trans (World.drewN_drewN _ _ _) (congrArg (World.drewN _) (Nat.add_assoc _ _ _))⟩))))
                    go_ret3
                    exact ⟨by first | rfl | (simp [errW_none, errW_some] <;> rfl) | (simp [*, errW_none, errW_some] <;> rfl), by repeat (first | (with_reducible first | exact HB.out | apply below_alloc | apply pw_below_drewN | apply below_drew1) | exact HB.out)⟩
                  · rw [if_neg c37] at H
                    have c37b0 : decide ((a1.size : Int) < 4) = false := decide_eq_false c37
                    have c37b1 : decide (a1.size < 4) = false := decide_eq_false (by omega)
                    clear c37
                    replace H := Option.bind_eq_some_iff.mp H
                    obtain ⟨⟨t174, t175⟩, A380, H⟩ := H
                    replace H : (if t175 = true then (if 0 ≤ 4 then (if 4 ≤ (a1.size : Int) then (some (wrap64 ((wrap64 ((wrap64 ((wrap64 (65536 + (wrap64 ((wrap64 ((wrap64 ((wrap64 (t164 * 256)) + t171)) - 55296)) * 1024)))) + (wrap64 (t172 * 256)))) + t173)) - 56320), 4, (t174.toList == (a1.extract 0 4).toList))) else (none)) else (none)) else (some (wrap64 ((wrap64 ((wrap64 ((wrap64 (65536 + (wrap64 ((wrap64 ((wrap64 ((wrap64 (t164 * 256)) + t171)) - 55296)) * 1024)))) + (wrap64 (t172 * 256)))) + t173)) - 56320), 4, false))) = some (r1, r2, r3) := H
                    have A38 := Aside0.mk A380
                    clear A380
                    by_cases c39 : t175 = true
                    · subst c39
                      have H1 : (if 0 ≤ 4 then (if 4 ≤ (a1.size : Int) then (some (wrap64 ((wrap64 ((wrap64 ((wrap64 (65536 + (wrap64 ((wrap64 ((wrap64 ((wrap64 (t164 * 256)) + t171)) - 55296)) * 1024)))) + (wrap64 (t172 * 256)))) + t173)) - 56320), 4, (t174.toList == (a1.extract 0 4).toList))) else (none)) else (none)) = some (r1, r2, r3) := by rw [if_pos rfl] at H; exact H
                      clear H
                      have H := H1
                      clear H1
                      by_cases c40 : 0 ≤ 4
                      · rw [if_pos c40] at H
                        have c40b0 := eq_true c40
                        have c40b1 : decide (0 ≤ 4) = true := decide_eq_true c40
                        clear c40
                        by_cases c41 : 4 ≤ (a1.size : Int)
                        · rw [if_pos c41] at H
                          have c41b0 := eq_true c41
                          have c41b1 : decide (4 ≤ (a1.size : Int)) = true := decide_eq_true c41
                          clear c41
                          simp only [Option.some.injEq, Prod.mk.injEq] at H
                          obtain ⟨rfl, rfl, rfl⟩ := H
                          go_wp2_with (first | (go_at_call 49; (with_reducible refine (intermederef12_at.calls a1 2 t172 _ A35.out).mono ?_); rintro e w' ⟨rfl, ⟨nd, rfl⟩⟩; (try first | exact ⟨rfl, _, World.drewN_drewN _ _ _⟩ | exact ⟨rfl, _, Eq.trans (World.drewN_drewN _ _ _) (congrArg (World.drewN _) (Nat.add_assoc _ _ _))⟩)) | (go_at_call 49; (with_reducible refine (intermederef12_at.calls a1 3 t173 _ A36.out).mono ?_); rintro e w' ⟨rfl, ⟨nd, rfl⟩⟩; (try first | exact ⟨rfl, _, World.drewN_drewN _ _ _⟩ | exact ⟨rfl, _, Eq.trans (World.drewN_drewN _ _ _) (congrArg (World.drewN _) (Nat.add_assoc _ _ _))⟩)) | (go_at_call 34; (with_reducible refine (intermederef12_Sign.calls kj31 a0 (wrap64 ((wrap64 ((wrap64 ((wrap64 (65536 + (wrap64 ((wrap64 ((wrap64 ((wrap64 (t164 * 256)) + t171)) - 55296)) * 1024)))) + (wrap64 (t172 * 256)))) + t173)) - 56320)) t174 true _ A38.out).mono ?_); rintro e w42 ⟨rfl, hb⟩; have n0_ := Aside0.mk (below_step (by repeat (first | (with_reducible first | exact HB.out | apply below_alloc | apply pw_below_drewN | apply below_drew1) | exact HB.out)) hb); clear HB; have HB := n0_; clear n0_; (try clear hb); (try clear hb2); (try clear hk); (try clear hi)))
                          repeat (go_quiet (first | (go_at_call 49; (with_reducible refine (intermederef12_at.calls a1 2 t172 _ A35.out).mono ?_); rintro e w' ⟨rfl, ⟨nd, rfl⟩⟩; (try first | exact ⟨rfl, _, World.drewN_drewN _ _ _⟩ | exact ⟨rfl, _, Eq.trans (World.drewN_drewN _ _ _) (congrArg (World.drewN _) (Nat.add_assoc _ _ _))⟩)) | (go_at_call 49; (with_reducible refine (intermederef12_at.calls a1 3 t173 _ A36.out).mono ?_); rintro e w' ⟨rfl, ⟨nd, rfl⟩⟩; (try first | exact ⟨rfl, _, World.drewN_drewN _ _ _⟩ | exact ⟨rfl, _, Eq.trans (World.drewN_drewN _ _ _) (congrArg (World.drewN _) (Nat.add_assoc _ _ _))⟩)) | (go_at_call 34; (with_reducible refine (intermederef12_Sign.calls kj31 a0 (wrap64 ((wrap64 ((wrap64 ((wrap64 (65536 + (wrap64 ((wrap64 ((wrap64 ((wrap64 (t164 * 256)) + t171)) - 55296)) * 1024)))) + (wrap64 (t172 * 256)))) + t173)) - 56320)) t174 true _ A38.out).mono ?_); rintro e w42 ⟨rfl, hb⟩; have n0_ := Aside0.mk (below_step (by repeat (first | (with_reducible first | exact HB.out | apply below_alloc | apply pw_below_drewN | apply below_drew1) | exact HB.out)) hb); clear HB; have HB := n0_; clear n0_; (try clear hb); (try clear hb2); (try clear hk); (try clear hi))); try go_wp2_with (first | (go_at_call 49; (with_reducible refine (intermederef12_at.calls a1 2 t172 _ A35.out).mono ?_); rintro e w' ⟨rfl, ⟨nd, rfl⟩⟩; (try first | exact ⟨rfl, _, World.drewN_drewN _ _ _⟩ | exact ⟨rfl, _, Eq.trans (World.drewN_drewN _ _ _) (congrArg (World.drewN _) (Nat.add_assoc _ _ _))⟩)) | (go_at_call 49; (with_reducible refine (intermederef12_at.calls a1 3 t173 _ A36.out).mono ?_); rintro e w' ⟨rfl, ⟨nd, rfl⟩⟩; (try first | exact ⟨rfl, _, World.drewN_drewN _ _ _⟩ | exact ⟨rfl, _, Eq.trans (World.drewN_drewN _ _ _) (congrArg (World.drewN _) (Nat.add_assoc _ _ _))⟩)) | (go_at_call 34; (with_reducible refine (intermederef12_Sign.calls kj31 a0 (wrap64 ((wrap64 ((wrap64 ((wrap64 (65536 + (wrap64 ((wrap64 ((wrap64 ((wrap64 (t164 * 256)) + t171)) - 55296)) * 1024)))) + (wrap64 (t172 * 256)))) + t173)) - 56320)) t174 true _ A38.out).mono ?_); rintro e w42 ⟨rfl, hb⟩; have n0_ := Aside0.mk (below_step (by repeat (first | (with_reducible first | exact HB.out | apply below_alloc | apply pw_below_drewN | apply below_drew1) | exact HB.out)) hb); clear HB; have HB := n0_; clear n0_; (try clear hb); (try clear hb2); (try clear hk); (try clear hi))))
                          go_ret3
                          exact ⟨by first | rfl | (simp [errW_none, errW_some] <;> rfl) | (simp [*, errW_none, errW_some] <;> rfl), by repeat (first | (with_reducible first | exact HB.out | apply below_alloc | apply pw_below_drewN | apply below_drew1) | exact HB.out)⟩
                        · rw [if_neg c41] at H
                          exact absurd H (by simp)
                      · rw [if_neg c40] at H
                        exact absurd H (by simp)
                    · replace c39 := Bool.eq_false_iff.mpr c39
                      subst c39
                      have H1 : (some (wrap64 ((wrap64 ((wrap64 ((wrap64 (65536 + (wrap64 ((wrap64 ((wrap64 ((wrap64 (t164 * 256)) + t171)) - 55296)) * 1024)))) + (wrap64 (t172 * 256)))) + t173)) - 56320), 4, false)) = some (r1, r2, r3) := by rw [if_neg (show ¬ (false = true) by decide)] at H; exact H
                      clear H
                      have H := H1
                      clear H1
                      simp only [Option.some.injEq, Prod.mk.injEq] at H
                      obtain ⟨rfl, rfl, rfl⟩ := H
                      go_wp2_with (first | (go_at_call 49; (with_reducible refine (intermederef12_at.calls a1 2 t172 _ A35.out).mono ?_); rintro e w' ⟨rfl, ⟨nd, rfl⟩⟩; (try first | exact ⟨rfl, _, World.drewN_drewN _ _ _⟩ | exact ⟨rfl, _, Eq.trans (World.drewN_drewN _ _ _) (congrArg (World.drewN _) (Nat.add_assoc _ _ _))⟩)) | (go_at_call 49; (with_reducible refine (intermederef12_at.calls a1 3 t173 _ A36.out).mono ?_); rintro e w' ⟨rfl, ⟨nd, rfl⟩⟩; (try first | exact ⟨rfl, _, World.drewN_drewN _ _ _⟩ | exact ⟨rfl, _, Eq.trans (World.drewN_drewN _ _ _) (congrArg (World.drewN _) (Nat.add_assoc _ _ _))⟩)) | (go_at_call 34; (with_reducible refine (intermederef12_Sign.calls kj31 a0 (wrap64 ((wrap64 ((wrap64 ((wrap64 (65536 + (wrap64 ((wrap64 ((wrap64 ((wrap64 (t164 * 256)) + t171)) - 55296)) * 1024)))) + (wrap64 (t172 * 256)))) + t173)) - 56320)) t174 false _ A38.out).mono ?_); rintro e w43 ⟨rfl, hb⟩; have n0_ := Aside0.mk (below_step (by repeat (first | (with_reducible first | exact HB.out | apply below_alloc | apply pw_below_drewN | apply below_drew1) | exact HB.out)) hb); clear HB; have HB := n0_; clear n0_; (try clear hb); (try clear hb2); (try clear hk); (try clear hi)))
                      repeat (go_quiet (first | (go_at_call 49; (with_reducible refine (intermederef12_at.calls a1 2 t172 _ A35.out).mono ?_); rintro e w' ⟨rfl, ⟨nd, rfl⟩⟩; (try first | exact ⟨rfl, _, World.drewN_drewN _ _ _⟩ | exact ⟨rfl, _, Eq.trans (World.drewN_drewN _ _ _) (congrArg (World.drewN _) (Nat.add_assoc _ _ _))⟩)) | (go_at_call 49; (with_reducible refine (intermederef12_at.calls a1 3 t173 _ A36.out).mono ?_); rintro e w' ⟨rfl, ⟨nd, rfl⟩⟩; (try first | exact ⟨rfl, _, World.drewN_drewN _ _ _⟩ | exact ⟨rfl, _, Eq.trans (World.drewN_drewN _ _ _) (congrArg (World.drewN _) (Nat.add_assoc _ _ _))⟩)) | (go_at_call 34; (with_reducible refine (intermederef12_Sign.calls kj31 a0 (wrap64 ((wrap64 ((wrap64 ((wrap64 (65536 + (wrap64 ((wrap64 ((wrap64 ((wrap64 (t164 * 256)) + t171)) - 55296)) * 1024)))) + (wrap64 (t172 * 256)))) + t173)) - 56320)) t174 false _ A38.out).mono ?_); rintro e w43 ⟨rfl, hb⟩; have n0_ := Aside0.mk (below_step (by repeat (first | (with_reducible first | exact HB.out | apply below_alloc | apply pw_below_drewN | apply below_drew1) | exact HB.out)) hb); clear HB; have HB := n0_; clear n0_; (try clear hb); (try clear hb2); (try clear hk); (try clear hi))); try go_wp2_with (first | (go_at_call 49; (with_reducible refine (intermederef12_at.calls a1 2 t172 _ A35.out).mono ?_); rintro e w' ⟨rfl, ⟨nd, rfl⟩⟩; (try first | exact ⟨rfl, _, World.drewN_drewN _ _ _⟩ | exact ⟨rfl, _, Eq.trans (World.drewN_drewN _ _ _) (congrArg (World.drewN _) (Nat.add_assoc _ _ _))⟩)) | (go_at_call 49; (with_reducible refine (intermederef12_at.calls a1 3 t173 _ A36.out).mono ?_); rintro e w' ⟨rfl, ⟨nd, rfl⟩⟩; (try first | exact ⟨rfl, _, World.drewN_drewN _ _ _⟩ | exact ⟨rfl, _, Eq.trans (World.drewN_drewN _ _ _) (congrArg (World.drewN _) (Nat.add_assoc _ _ _))⟩)) | (go_at_call 34; (with_reducible refine (intermederef12_Sign.calls kj31 a0 (wrap64 ((wrap64 ((wrap64 ((wrap64 (65536 + (wrap64 ((wrap64 ((wrap64 ((wrap64 (t164 * 256)) + t171)) - 55296)) * 1024)))) + (wrap64 (t172 * 256)))) + t173)) - 56320)) t174 false _ A38.out).mono ?_); rintro e w43 ⟨rfl, hb⟩; have n0_ := Aside0.mk (below_step (by repeat (first | (with_reducible first | exact HB.out | apply below_alloc | apply pw_below_drewN | apply below_drew1) | exact HB.out)) hb); clear HB; have HB := n0_; clear n0_; (try clear hb); (try clear hb2); (try clear hk); (try clear hi))))
                      go_ret3
                      exact ⟨by first | rfl | (simp [errW_none, errW_some] <;> rfl) | (simp [*, errW_none, errW_some] <;> rfl), by repeat (first | (with_reducible first | exact HB.out | apply below_alloc | apply pw_below_drewN | apply below_drew1) | exact HB.out)⟩
                · replace c34 := Bool.eq_false_iff.mpr c34
                  subst c34
                  have H1 : (if (a1.size : Int) < 2 then (some (0, 0, false)) else ((intermederef12_Sign.f kj31 a0 (wrap64 ((wrap64 (t164 * 256)) + t171))).bind fun bt176 => (if bt176.2 = true then (if 0 ≤ 2 then (if 2 ≤ (a1.size : Int) then (some ((wrap64 ((wrap64 (t164 * 256)) + t171)), 2, (bt176.1.toList == (a1.extract 0 (2 : Int).toNat).toList))) else (none)) else (none)) else (some ((wrap64 ((wrap64 (t164 * 256)) + t171)), 2, false))))) = some (r1, r2, r3) := by rw [if_neg (show ¬ (false = true) by decide)] at H; exact H
                  clear H
                  have H := H1
                  clear H1
                  by_cases c44 : (a1.size : Int) < 2
                  · rw [if_pos c44] at H
                    have c44b0 : decide ((a1.size : Int) < 2) = true := decide_eq_true c44
                    have c44b1 : decide (a1.size < 2) = true := decide_eq_true (by omega)
                    clear c44
                    simp only [Option.some.injEq, Prod.mk.injEq] at H
                    obtain ⟨rfl, rfl, rfl⟩ := H
                    go_wp2
                    repeat (go_quiet (fail); try go_wp2)
                    go_ret3
                    exact ⟨by first | rfl | (simp [errW_none, errW_some] <;> rfl) | (simp [*, errW_none, errW_some] <;> rfl), by repeat (first | (with_reducible first | exact HB.out | apply below_alloc | apply pw_below_drewN | apply below_drew1) | exact HB.out)⟩
                  · rw [if_neg c44] at H
                    have c44b0 : decide ((a1.size : Int) < 2) = false := decide_eq_false c44
                    have c44b1 : decide (a1.size < 2) = false := decide_eq_false (by omega)
                    clear c44
                    replace H := Option.bind_eq_some_iff.mp H
                    obtain ⟨⟨t176, t177⟩, A450, H⟩ := H
                    replace H : (if t177 = true then (if 0 ≤ 2 then (if 2 ≤ (a1.size : Int) then (some ((wrap64 ((wrap64 (t164 * 256)) + t171)), 2, (t176.toList == (a1.extract 0 (2 : Int).toNat).toList))) else (none)) else (none)) else (some ((wrap64 ((wrap64 (t164 * 256)) + t171)), 2, false))) = some (r1, r2, r3) := H
                    have A45 := Aside0.mk A450
                    clear A450
                    by_cases c46 : t177 = true
                    · subst c46
                      have H1 : (if 0 ≤ 2 then (if 2 ≤ (a1.size : Int) then (some ((wrap64 ((wrap64 (t164 * 256)) + t171)), 2, (t176.toList == (a1.extract 0 (2 : Int).toNat).toList))) else (none)) else (none)) = some (r1, r2, r3) := by rw [if_pos rfl] at H; exact H
                      clear H
                      have H := H1
                      clear H1
                      by_cases c47 : 0 ≤ 2
                      · rw [if_pos c47] at H
                        have c47b0 := eq_true c47
                        have c47b1 : decide (0 ≤ 2) = true := decide_eq_true c47
                        clear c47
                        by_cases c48 : 2 ≤ (a1.size : Int)
                        · rw [if_pos c48] at H
                          have c48b0 := eq_true c48
                          have c48b1 : decide (2 ≤ (a1.size : Int)) = true := decide_eq_true c48
                          clear c48
                          simp only [Option.some.injEq, Prod.mk.injEq] at H
                          obtain ⟨rfl, rfl, rfl⟩ := H
                          go_wp2_with (first | (go_at_call 34; (with_reducible refine (intermederef12_Sign.calls kj31 a0 (wrap64 ((wrap64 (t164 * 256)) + t171)) t176 true _ A45.out).mono ?_); rintro e w49 ⟨rfl, hb⟩; have n0_ := Aside0.mk (below_step (by repeat (first | (with_reducible first | exact HB.out | apply below_alloc | apply pw_below_drewN | apply below_drew1) | exact HB.out)) hb); clear HB; have HB := n0_; clear n0_; (try clear hb); (try clear hb2); (try clear hk); (try clear hi)))
                          repeat (go_quiet (first | (go_at_call 34; (with_reducible refine (intermederef12_Sign.calls kj31 a0 (wrap64 ((wrap64 (t164 * 256)) + t171)) t176 true _ A45.out).mono ?_); rintro e w49 ⟨rfl, hb⟩; have n0_ := Aside0.mk (below_step (by repeat (first | (with_reducible first | exact HB.out | apply below_alloc | apply pw_below_drewN | apply below_drew1) | exact HB.out)) hb); clear HB; have HB := n0_; clear n0_; (try clear hb); (try clear hb2); (try clear hk); (try clear hi))); try go_wp2_with (first | (go_at_call 34; (with_reducible refine (intermederef12_Sign.calls kj31 a0 (wrap64 ((wrap64 (t164 * 256)) + t171)) t176 true _ A45.out).mono ?_); rintro e w49 ⟨rfl, hb⟩; have n0_ := Aside0.mk (below_step (by repeat (first | (with_reducible first | exact HB.out | apply below_alloc | apply pw_below_drewN | apply below_drew1) | exact HB.out)) hb); clear HB; have HB := n0_; clear n0_; (try clear hb); (try clear hb2); (try clear hk); (try clear hi))))
                          go_ret3
                          exact ⟨by first | rfl | (simp [errW_none, errW_some] <;> rfl) | (simp [*, errW_none, errW_some] <;> rfl), by repeat (first | (with_reducible first | exact HB.out | apply below_alloc | apply pw_below_drewN | apply below_drew1) | exact HB.out)⟩
                        · rw [if_neg c48] at H
                          exact absurd H (by simp)
                      · rw [if_neg c47] at H
                        exact absurd H (by simp)
                    · replace c46 := Bool.eq_false_iff.mpr c46
                      subst c46
                      have H1 : (some ((wrap64 ((wrap64 (t164 * 256)) + t171)), 2, false)) = some (r1, r2, r3) := by rw [if_neg (show ¬ (false = true) by decide)] at H; exact H
                      clear H
                      have H := H1
                      clear H1
                      simp only [Option.some.injEq, Prod.mk.injEq] at H
                      obtain ⟨rfl, rfl, rfl⟩ := H
                      go_wp2_with (first | (go_at_call 34; (with_reducible refine (intermederef12_Sign.calls kj31 a0 (wrap64 ((wrap64 (t164 * 256)) + t171)) t176 false _ A45.out).mono ?_); rintro e w50 ⟨rfl, hb⟩; have n0_ := Aside0.mk (below_step (by repeat (first | (with_reducible first | exact HB.out | apply below_alloc | apply pw_below_drewN | apply below_drew1) | exact HB.out)) hb); clear HB; have HB := n0_; clear n0_; (try clear hb); (try clear hb2); (try clear hk); (try clear hi)))
                      repeat (go_quiet (first | (go_at_call 34; (with_reducible refine (intermederef12_Sign.calls kj31 a0 (wrap64 ((wrap64 (t164 * 256)) + t171)) t176 false _ A45.out).mono ?_); rintro e w50 ⟨rfl, hb⟩; have n0_ := Aside0.mk (below_step (by repeat (first | (with_reducible first | exact HB.out | apply below_alloc | apply pw_below_drewN | apply below_drew1) | exact HB.out)) hb); clear HB; have HB := n0_; clear n0_; (try clear hb); (try clear hb2); (try clear hk); (try clear hi))); try go_wp2_with (first | (go_at_call 34; (with_reducible refine (intermederef12_Sign.calls kj31 a0 (wrap64 ((wrap64 (t164 * 256)) + t171)) t176 false _ A45.out).mono ?_); rintro e w50 ⟨rfl, hb⟩; have n0_ := Aside0.mk (below_step (by repeat (first | (with_reducible first | exact HB.out | apply below_alloc | apply pw_below_drewN | apply below_drew1) | exact HB.out)) hb); clear HB; have HB := n0_; clear n0_; (try clear hb); (try clear hb2); (try clear hk); (try clear hi))))
                      go_ret3
                      exact ⟨by first | rfl | (simp [errW_none, errW_some] <;> rfl) | (simp [*, errW_none, errW_some] <;> rfl), by repeat (first | (with_reducible first | exact HB.out | apply below_alloc | apply pw_below_drewN | apply below_drew1) | exact HB.out)⟩
          · rw [if_neg c30] at H
            have c30b0 : (a0 == 4) = false := beq_eq_false_iff_ne.mpr c30
            have c30b1 : (a0 != 4) = true := bne_iff_ne.mpr c30
            by_cases c51 : a0 = 3
            · rw [if_pos c51] at H
              have c51b0 : (a0 == 3) = true := beq_iff_eq.mpr c51
              have c51b1 : (a0 != 3) = false := bne_eq_false_iff_eq.mpr c51
              clear c51
              replace H := Option.bind_eq_some_iff.mp H
              obtain ⟨t178, A520, H⟩ := H
              replace H : ((intermederef12_at.f a1 2).bind fun t179 => ((intermederef12_at.f a1 3).bind fun t180 => (if t164 < 128 then (if (a1.size : Int) < 1 then (some (0, 0, false)) else ((intermederef12_Sign.f kj3 a0 t164).bind fun bt181 => (if bt181.2 = true then (if 0 ≤ 1 then (if 1 ≤ (a1.size : Int) then (some (t164, 1, (bt181.1.toList == (a1.extract 0 1).toList))) else (none)) else (none)) else (some (t164, 1, false))))) else (if t164 < 224 then (if (a1.size : Int) < 2 then (some (0, 0, false)) else ((intermederef12_Sign.f kj3 a0 (wrap64 ((wrap64 ((Int.tmod t164 32) * 64)) + (Int.tmod t178 64)))).bind fun bt183 => (if bt183.2 = true then (if 0 ≤ 2 then (if 2 ≤ (a1.size : Int) then (some (wrap64 ((wrap64 ((Int.tmod t164 32) * 64)) + (Int.tmod t178 64)), 2, (bt183.1.toList == (a1.extract 0 2).toList))) else (none)) else (none)) else (some (wrap64 ((wrap64 ((Int.tmod t164 32) * 64)) + (Int.tmod t178 64)), 2, false))))) else (if t164 < 240 then (if (a1.size : Int) < 3 then (some (0, 0, false)) else ((intermederef12_Sign.f kj3 a0 (wrap64 ((wrap64 ((wrap64 ((Int.tmod t164 16) * 4096)) + (wrap64 ((Int.tmod t178 64) * 64)))) + (Int.tmod t179 64)))).bind fun bt185 => (if bt185.2 = true then (if 0 ≤ 3 then (if 3 ≤ (a1.size : Int) then (some (wrap64 ((wrap64 ((wrap64 ((Int.tmod t164 16) * 4096)) + (wrap64 ((Int.tmod t178 64) * 64)))) + (Int.tmod t179 64)), 3, (bt185.1.toList == (a1.extract 0 3).toList))) else (none)) else (none)) else (some (wrap64 ((wrap64 ((wrap64 ((Int.tmod t164 16) * 4096)) + (wrap64 ((Int.tmod t178 64) * 64)))) + (Int.tmod t179 64)), 3, false))))) else (if (a1.size : Int) < 4 then (some (0, 0, false)) else ((intermederef12_Sign.f kj3 a0 (wrap64 ((wrap64 ((wrap64 ((wrap64 ((Int.tmod t164 8) * 262144)) + (wrap64 ((Int.tmod t178 64) * 4096)))) + (wrap64 ((Int.tmod t179 64) * 64)))) + (Int.tmod t180 64)))).bind fun bt187 => (if bt187.2 = true then (if 0 ≤ 4 then (if 4 ≤ (a1.size : Int) then (some (wrap64 ((wrap64 ((wrap64 ((wrap64 ((Int.tmod t164 8) * 262144)) + (wrap64 ((Int.tmod t178 64) * 4096)))) + (wrap64 ((Int.tmod t179 64) * 64)))) + (Int.tmod t180 64)), 4, (bt187.1.toList == (a1.extract 0 4).toList))) else (none)) else (none)) else (some (wrap64 ((wrap64 ((wrap64 ((wrap64 ((Int.tmod t164 8) * 262144)) + (wrap64 ((Int.tmod t178 64) * 4096)))) + (wrap64 ((Int.tmod t179 64) * 64)))) + (Int.tmod t180 64)), 4, false)))))))))) = some (r1, r2, r3) := H
              have A52 := Aside0.mk A520
              clear A520
              replace H := Option.bind_eq_some_iff.mp H
              obtain ⟨t179, A530, H⟩ := H
              replace H : ((intermederef12_at.f a1 3).bind fun t180 => (if t164 < 128 then (if (a1.size : Int) < 1 then (some (0, 0, false)) else ((intermederef12_Sign.f kj3 a0 t164).bind fun bt181 => (if bt181.2 = true then (if 0 ≤ 1 then (if 1 ≤ (a1.size : Int) then (some (t164, 1, (bt181.1.toList == (a1.extract 0 1).toList))) else (none)) else (none)) else (some (t164, 1, false))))) else (if t164 < 224 then (if (a1.size : Int) < 2 then (some (0, 0, false)) else ((intermederef12_Sign.f kj3 a0 (wrap64 ((wrap64 ((Int.tmod t164 32) * 64)) + (Int.tmod t178 64)))).bind fun bt183 => (if bt183.2 = true then (if 0 ≤ 2 then (if 2 ≤ (a1.size : Int) then (some (wrap64 ((wrap64 ((Int.tmod t164 32) * 64)) + (Int.tmod t178 64)), 2, (bt183.1.toList == (a1.extract 0 2).toList))) else (none)) else (none)) else (some (wrap64 ((wrap64 ((Int.tmod t164 32) * 64)) + (Int.tmod t178 64)), 2, false))))) else (if t164 < 240 then (if (a1.size : Int) < 3 then (some (0, 0, false)) else ((intermederef12_Sign.f kj3 a0 (wrap64 ((wrap64 ((wrap64 ((Int.tmod t164 16) * 4096)) + (wrap64 ((Int.tmod t178 64) * 64)))) + (Int.tmod t179 64)))).bind fun bt185 => (if bt185.2 = true then (if 0 ≤ 3 then (if 3 ≤ (a1.size : Int) then (some (wrap64 ((wrap64 ((wrap64 ((Int.tmod t164 16) * 4096)) + (wrap64 ((Int.tmod t178 64) * 64)))) + (Int.tmod t179 64)), 3, (bt185.1.toList == (a1.extract 0 3).toList))) else (none)) else (none)) else (some (wrap64 ((wrap64 ((wrap64 ((Int.tmod t164 16) * 4096)) + (wrap64 ((Int.tmod t178 64) * 64)))) + (Int.tmod t179 64)), 3, false))))) else (if (a1.size : Int) < 4 then (some (0, 0, false)) else ((intermederef12_Sign.f kj3 a0 (wrap64 ((wrap64 ((wrap64 ((wrap64 ((Int.tmod t164 8) * 262144)) + (wrap64 ((Int.tmod t178 64) * 4096)))) + (wrap64 ((Int.tmod t179 64) * 64)))) + (Int.tmod t180 64)))).bind fun bt187 => (if bt187.2 = true then (if 0 ≤ 4 then (if 4 ≤ (a1.size : Int) then (some (wrap64 ((wrap64 ((wrap64 ((wrap64 ((Int.tmod t164 8) * 262144)) + (wrap64 ((Int.tmod t178 64) * 4096)))) + (wrap64 ((Int.tmod t179 64) * 64)))) + (Int.tmod t180 64)), 4, (bt187.1.toList == (a1.extract 0 4).toList))) else (none)) else (none)) else (some (wrap64 ((wrap64 ((wrap64 ((wrap64 ((Int.tmod t164 8) * 262144)) + (wrap64 ((Int.tmod t178 64) * 4096)))) + (wrap64 ((Int.tmod t179 64) * 64)))) + (Int.tmod t180 64)), 4, false))))))))) = some (r1, r2, r3) := H
              have A53 := Aside0.mk A530
              clear A530
              replace H := Option.bind_eq_some_iff.mp H
              obtain ⟨t180, A540, H⟩ := H
              replace H : (if t164 < 128 then (if (a1.size : Int) < 1 then (some (0, 0, false)) else ((intermederef12_Sign.f kj3 a0 t164).bind fun bt181 => (if bt181.2 = true then (if 0 ≤ 1 then (if 1 ≤ (a1.size : Int) then (some (t164, 1, (bt181.1.toList == (a1.extract 0 1).toList))) else (none)) else (none)) else (some (t164, 1, false))))) else (if t164 < 224 then (if (a1.size : Int) < 2 then (some (0, 0, false)) else ((intermederef12_Sign.f kj3 a0 (wrap64 ((wrap64 ((Int.tmod t164 32) * 64)) + (Int.tmod t178 64)))).bind fun bt183 => (if bt183.2 = true then (if 0 ≤ 2 then (if 2 ≤ (a1.size : Int) then (some (wrap64 ((wrap64 ((Int.tmod t164 32) * 64)) + (Int.tmod t178 64)), 2, (bt183.1.toList == (a1.extract 0 2).toList))) else (none)) else (none)) else (some (wrap64 ((wrap64 ((Int.tmod t164 32) * 64)) + (Int.tmod t178 64)), 2, false))))) else (if t164 < 240 then (if (a1.size : Int) < 3 then (some (0, 0, false)) else ((intermederef12_Sign.f kj3 a0 (wrap64 ((wrap64 ((wrap64 ((Int.tmod t164 16) * 4096)) + (wrap64 ((Int.tmod t178 64) * 64)))) + (Int.tmod t179 64)))).bind fun bt185 => (if bt185.2 = true then (if 0 ≤ 3 then (if 3 ≤ (a1.size : Int) then (some (wrap64 ((wrap64 ((wrap64 ((Int.tmod t164 16) * 4096)) + (wrap64 ((Int.tmod t178 64) * 64)))) + (Int.tmod t179 64)), 3, (bt185.1.toList == (a1.extract 0 3).toList))) else (none)) else (none)) else (some (wrap64 ((wrap64 ((wrap64 ((Int.tmod t164 16) * 4096)) + (wrap64 ((Int.tmod t178 64) * 64)))) + (Int.tmod t179 64)), 3, false))))) else (if (a1.size : Int) < 4 then (some (0, 0, false)) else ((intermederef12_Sign.f kj3 a0 (wrap64 ((wrap64 ((wrap64 ((wrap64 ((Int.tmod t164 8) * 262144)) + (wrap64 ((Int.tmod t178 64) * 4096)))) + (wrap64 ((Int.tmod t179 64) * 64)))) + (Int.tmod t180 64)))).bind fun bt187 => (if bt187.2 = true then (if 0 ≤ 4 then (if 4 ≤ (a1.size : Int) then (some (wrap64 ((wrap64 ((wrap64 ((wrap64 ((Int.tmod t164 8) * 262144)) + (wrap64 ((Int.tmod t178 64) * 4096)))) + (wrap64 ((Int.tmod t179 64) * 64)))) + (Int.tmod t180 64)), 4, (bt187.1.toList == (a1.extract 0 4).toList))) else (none)) else (none)) else (some (wrap64 ((wrap64 ((wrap64 ((wrap64 ((Int.tmod t164 8) * 262144)) + (wrap64 ((Int.tmod t178 64) * 4096)))) + (wrap64 ((Int.tmod t179 64) * 64)))) + (Int.tmod t180 64)), 4, false)))))))) = some (r1, r2, r3) := H
              have A54 := Aside0.mk A540
              clear A540
              by_cases c55 : t164 < 128
              · rw [if_pos c55] at H
                have c55b0 : decide (t164 < 128) = true := decide_eq_true c55
                clear c55
                by_cases c56 : (a1.size : Int) < 1
                · rw [if_pos c56] at H
                  have c56b0 : decide ((a1.size : Int) < 1) = true := decide_eq_true c56
                  have c56b1 : decide (a1.size < 1) = true := decide_eq_true (by omega)
                  clear c56
                  simp only [Option.some.injEq, Prod.mk.injEq] at H
                  obtain ⟨rfl, rfl, rfl⟩ := H
                  go_wp2_with (first | (go_at_call 49; (with_reducible refine (intermederef12_at.calls a1 1 t178 _ A52.out).mono ?_); rintro e w' ⟨rfl, ⟨nd, rfl⟩⟩; (try first | exact ⟨rfl, _, World.drewN_drewN _ _ _⟩ | exact ⟨rfl, _, Eq.trans (World.drewN_drewN _ _ _) (congrArg (World.drewN _) (Nat.add_assoc _ _ _))⟩)) | (go_at_call 49; (with_reducible refine (intermederef12_at.calls a1 2 t179 _ A53.out).mono ?_); rintro e w' ⟨rfl, ⟨nd, rfl⟩⟩; (try first | exact ⟨rfl, _, World.drewN_drewN _ _ _⟩ | exact ⟨rfl, _, Eq.trans (World.drewN_drewN _ _ _) (congrArg (World.drewN _) (Nat.add_assoc _ _ _))⟩)) | (go_at_call 49; (with_reducible refine (intermederef12_at.calls a1 3 t180 _ A54.out).mono ?_); rintro e w' ⟨rfl, ⟨nd, rfl⟩⟩; (try first | exact ⟨rfl, _, World.drewN_drewN _ _ _⟩ | exact ⟨rfl, _, Eq.trans (World.drewN_drewN _ _ _) (congrArg (World.drewN _) (Nat.add_assoc _ _ _))⟩)))
                  repeat (go_quiet (first | (go_at_call 49; (with_reducible refine (intermederef12_at.calls a1 1 t178 _ A52.out).mono ?_); rintro e w' ⟨rfl, ⟨nd, rfl⟩⟩; (try first | exact ⟨rfl, _, World.drewN_drewN _ _ _⟩ | exact ⟨rfl, _, Eq.trans (World.drewN_drewN _ _ _) (congrArg (World.drewN _) (Nat.add_assoc _ _ _))⟩)) | (go_at_call 49; (with_reducible refine (intermederef12_at.calls a1 2 t179 _ A53.out).mono ?_); rintro e w' ⟨rfl, ⟨nd, rfl⟩⟩; (try first | exact ⟨rfl, _, World.drewN_drewN _ _ _⟩ | exact ⟨rfl, _, Eq.trans (World.drewN_drewN _ _ _) (congrArg (World.drewN _) (Nat.add_assoc _ _ _))⟩)) | (go_at_call 49; (with_reducible refine (intermederef12_at.calls a1 3 t180 _ A54.out).mono ?_); rintro e w' ⟨rfl, ⟨nd, rfl⟩⟩; (try first | exact ⟨rfl, _, World.drewN_drewN _ _ _⟩ | exact ⟨rfl, _, Eq.trans (World.drewN_drewN _ _ _) (congrArg (World.drewN _) (Nat.add_assoc _ _ _))⟩))); try go_wp2_with (first | (go_at_call 49; (with_reducible refine (intermederef12_at.calls a1 1 t178 _ A52.out).mono ?_); rintro e w' ⟨rfl, ⟨nd, rfl⟩⟩; (try first | exact ⟨rfl, _, World.drewN_drewN _ _ _⟩ | exact ⟨rfl, _, Eq.trans (World.drewN_drewN _ _ _) (congrArg (World.drewN _) (Nat.add_assoc _ _ _))⟩)) | (go_at_call 49; (with_reducible refine (intermederef12_at.calls a1 2 t179 _ A53.out).mono ?_); rintro e w' ⟨rfl, ⟨nd, rfl⟩⟩; (try first | exact ⟨rfl, _, World.drewN_drewN _ _ _⟩ | exact ⟨rfl, _, Eq.trans (World.drewN_drewN _ _ _) (congrArg (World.drewN _) (Nat.add_assoc _ _ _))⟩)) | (go_at_call 49; (with_reducible refine (intermederef12_at.calls a1 3 t180 _ A54.out).mono ?_); rintro e w' ⟨rfl, ⟨nd, rfl⟩⟩; (try first | exact ⟨rfl, _, World.drewN_drewN _ _ _⟩ | exact ⟨rfl, _, Eq.trans (World.drewN_drewN _ _ _) (congrArg (World.drewN _) (Nat.add_assoc _ _ _))⟩))))
                  go_ret3
                  exact ⟨by first | rfl | (simp [errW_none, errW_some] <;> rfl) | (simp [*, errW_none, errW_some] <;> rfl), by repeat (first | (with_reducible first | exact HB.out | apply below_alloc | apply pw_below_drewN | apply below_drew1) | exact HB.out)⟩
                · rw [if_neg c56] at H
                  have c56b0 : decide ((a1.size : Int) < 1) = false := decide_eq_false c56
                  have c56b1 : decide (a1.size < 1) = false := decide_eq_false (by omega)
                  clear c56
                  replace H := Option.bind_eq_some_iff.mp H
                  obtain ⟨⟨t181, t182⟩, A570, H⟩ := H
                  replace H : (if t182 = true then (if 0 ≤ 1 then (if 1 ≤ (a1.size : Int) then (some (t164, 1, (t181.toList == (a1.extract 0 1).toList))) else (none)) else (none)) else (some (t164, 1, false))) = some (r1, r2, r3) := H
                  have A57 := Aside0.mk A570
                  clear A570
                  by_cases c58 : t182 = true
                  · subst c58
                    have H1 : (if 0 ≤ 1 then (if 1 ≤ (a1.size : Int) then (some (t164, 1, (t181.toList == (a1.extract 0 1).toList))) else (none)) else (none)) = some (r1, r2, r3) := by rw [if_pos rfl] at H; exact H
                    clear H
                    have H := H1
                    clear H1
                    by_cases c59 : 0 ≤ 1
                    · rw [if_pos c59] at H
                      have c59b0 := eq_true c59
                      have c59b1 : decide (0 ≤ 1) = true := decide_eq_true c59
                      clear c59
                      by_cases c60 : 1 ≤ (a1.size : Int)
                      · rw [if_pos c60] at H
                        have c60b0 := eq_true c60
                        have c60b1 : decide (1 ≤ (a1.size : Int)) = true := decide_eq_true c60
                        clear c60
                        simp only [Option.some.injEq, Prod.mk.injEq] at H
                        obtain ⟨rfl, rfl, rfl⟩ := H
                        go_wp2_with (first | (go_at_call 49; (with_reducible refine (intermederef12_at.calls a1 1 t178 _ A52.out).mono ?_); rintro e w' ⟨rfl, ⟨nd, rfl⟩⟩; (try first | exact ⟨rfl, _, World.drewN_drewN _ _ _⟩ | exact ⟨rfl, _, Eq.trans (World.drewN_drewN _ _ _) (congrArg (World.drewN _) (Nat.add_assoc _ _ _))⟩)) | (go_at_call 49; (with_reducible refine (intermederef12_at.calls a1 2 t179 _ A53.out).mono ?_); rintro e w' ⟨rfl, ⟨nd, rfl⟩⟩; (try first | exact ⟨rfl, _, World.drewN_drewN _ _ _⟩ | exact ⟨rfl, _, Eq.trans (World.drewN_drewN _ _ _) (congrArg (World.drewN _) (Nat.add_assoc _ _ _))⟩)) | (go_at_call 49; (with_reducible refine (intermederef12_at.calls a1 3 t180 _ A54.out).mono ?_); rintro e w' ⟨rfl, ⟨nd, rfl⟩⟩; (try first | exact ⟨rfl, _, World.drewN_drewN _ _ _⟩ | exact ⟨rfl, _, Eq.trans (World.drewN_drewN _ _ _) (congrArg (World.drewN _) (Nat.add_assoc _ _ _))⟩)) | (go_at_call 34; (with_reducible refine (intermederef12_Sign.calls kj3 a0 t164 t181 true _ A57.out).mono ?_); rintro e w61 ⟨rfl, hb⟩; have n0_ := Aside0.mk (below_step (by repeat (first | (with_reducible first | exact HB.out | apply below_alloc | apply pw_below_drewN | apply below_drew1) | exact HB.out)) hb); clear HB; have HB := n0_; clear n0_; (try clear hb); (try clear hb2); (try clear hk); (try clear hi)))
                        repeat (go_quiet (first | (go_at_call 49; (with_reducible refine (intermederef12_at.calls a1 1 t178 _ A52.out).mono ?_); rintro e w' ⟨rfl, ⟨nd, rfl⟩⟩; (try first | exact ⟨rfl, _, World.drewN_drewN _ _ _⟩ | exact ⟨rfl, _, Eq.trans (World.drewN_drewN _ _ _) (congrArg (World.drewN _) (Nat.add_assoc _ _ _))⟩)) | (go_at_call 49; (with_reducible refine (intermederef12_at.calls a1 2 t179 _ A53.out).mono ?_); rintro e w' ⟨rfl, ⟨nd, rfl⟩⟩; (try first | exact ⟨rfl, _, World.drewN_drewN _ _ _⟩ | exact ⟨rfl, _, Eq.trans (World.drewN_drewN _ _ _) (congrArg (World.drewN _) (Nat.add_assoc _ _ _))⟩)) | (go_at_call 49; (with_reducible refine (intermederef12_at.calls a1 3 t180 _ A54.out).mono ?_); rintro e w' ⟨rfl, ⟨nd, rfl⟩⟩; (try first | exact ⟨rfl, _, World.drewN_drewN _ _ _⟩ | exact ⟨rfl, _, Eq.trans (World.drewN_drewN _ _ _) (congrArg (World.drewN _) (Nat.add_assoc _ _ _))⟩)) | (go_at_call 34; (with_reducible refine (intermederef12_Sign.calls kj3 a0 t164 t181 true _ A57.out).mono ?_); rintro e w61 ⟨rfl, hb⟩; have n0_ := Aside0.mk (below_step (by repeat (first | (with_reducible first | exact HB.out | apply below_alloc | apply pw_below_drewN | apply below_drew1) | exact HB.out)) hb); clear HB; have HB := n0_; clear n0_; (try clear hb); (try clear hb2); (try clear hk); (try clear hi))); try go_wp2_with (first | (go_at_call 49; (with_reducible refine (intermederef12_at.calls a1 1 t178 _ A52.out).mono ?_); rintro e w' ⟨rfl, ⟨nd, rfl⟩⟩; (try first | exact ⟨rfl, _, World.drewN_drewN _ _ _⟩ | exact ⟨rfl, _, Eq.trans (World.drewN_drewN _ _ _) (congrArg (World.drewN _) (Nat.add_assoc _ _ _))⟩)) | (go_at_call 49; (with_reducible refine (intermederef12_at.calls a1 2 t179 _ A53.out).mono ?_); rintro e w' ⟨rfl, ⟨nd, rfl⟩⟩; (try first | exact ⟨rfl, _, World.drewN_drewN _ _ _⟩ | exact ⟨rfl, _, Eq.trans (World.drewN_drewN _ _ _) (congrArg (World.drewN _) (Nat.add_assoc _ _ _))⟩)) | (go_at_call 49; (with_reducible refine (intermederef12_at.calls a1 3 t180 _ A54.out).mono ?_); rintro e w' ⟨rfl, ⟨nd, rfl⟩⟩; (try first | exact ⟨rfl, _, World.drewN_drewN _ _ _⟩ | exact ⟨rfl, _, Eq.trans (World.drewN_drewN _ _ _) (congrArg (World.drewN _) (Nat.add_assoc _ _ _))⟩)) | (go_at_call 34; (with_reducible refine (intermederef12_Sign.calls kj3 a0 t164 t181 true _ A57.out).mono ?_); rintro e w61 ⟨rfl, hb⟩; have n0_ := Aside0.mk (below_step (by repeat (first | (with_reducible first | exact HB.out | apply below_alloc | apply pw_below_drewN | apply below_drew1) | exact HB.out)) hb); clear HB; have HB := n0_; clear n0_; (try clear hb); (try clear hb2); (try clear hk); (try clear hi))))
                        go_ret3
                        exact ⟨by first | rfl | (simp [errW_none, errW_some] <;> rfl) | (simp [*, errW_none, errW_some] <;> rfl), by repeat (first | (with_reducible first | exact HB.out | apply below_alloc | apply pw_below_drewN | apply below_drew1) | exact HB.out)⟩
                      · rw [if_neg c60] at H
                        exact absurd H (by simp)
                    · rw [if_neg c59] at H
                      exact absurd H (by simp)
                  · replace c58 := Bool.eq_false_iff.mpr c58
                    subst c58
                    have H1 : (some (t164, 1, false)) = some (r1, r2, r3) := by rw [if_neg (show ¬ (false = true) by decide)] at H; exact H
                    clear H
                    have H := H1
                    clear H1
                    simp only [Option.some.injEq, Prod.mk.injEq] at H
                    obtain ⟨rfl, rfl, rfl⟩ := H
                    go_wp2_with (first | (go_at_call 49; (with_reducible refine (intermederef12_at.calls a1 1 t178 _ A52.out).mono ?_); rintro e w' ⟨rfl, ⟨nd, rfl⟩⟩; (try first | exact ⟨rfl, _, World.drewN_drewN _ _ _⟩ | exact ⟨rfl, _, Eq.trans (World.drewN_drewN _ _ _) (congrArg (World.drewN _) (Nat.add_assoc _ _ _))⟩)) | (go_at_call 49; (with_reducible refine (intermederef12_at.calls a1 2 t179 _ A53.out).mono ?_); rintro e w' ⟨rfl, ⟨nd, rfl⟩⟩; (try first | exact ⟨rfl, _, World.drewN_drewN _ _ _⟩ | exact ⟨rfl, _, Eq.trans (World.drewN_drewN _ _ _) (congrArg (World.drewN _) (Nat.add_assoc _ _ _))⟩)) | (go_at_call 49; (with_reducible refine (intermederef12_at.calls a1 3 t180 _ A54.out).mono ?_); rintro e w' ⟨rfl, ⟨nd, rfl⟩⟩; (try first | exact ⟨rfl, _, World.drewN_drewN _ _ _⟩ | exact ⟨rfl, _, Eq.trans (World.drewN_drewN _ _ _) (congrArg (World.drewN _) (Nat.add_assoc _ _ _))⟩)) | (go_at_call 34; (with_reducible refine (intermederef12_Sign.calls kj3 a0 t164 t181 false _ A57.out).mono ?_); rintro e w62 ⟨rfl, hb⟩; have n0_ := Aside0.mk (below_step (by repeat (first | (with_reducible first | exact HB.out | apply below_alloc | apply pw_below_drewN | apply below_drew1) | exact HB.out)) hb); clear HB; have HB := n0_; clear n0_; (try clear hb); (try clear hb2); (try clear hk); (try clear hi)))
                    repeat (go_quiet (first | (go_at_call 49; (with_reducible refine (intermederef12_at.calls a1 1 t178 _ A52.out).mono ?_); rintro e w' ⟨rfl, ⟨nd, rfl⟩⟩; (try first | exact ⟨rfl, _, World.drewN_drewN _ _ _⟩ | exact ⟨rfl, _, Eq.trans (World.drewN_drewN _ _ _) (congrArg (World.drewN _) (Nat.add_assoc _ _ _))⟩)) | (go_at_call 49; (with_reducible refine (intermederef12_at.calls a1 2 t179 _ A53.out).mono ?_); rintro e w' ⟨rfl, ⟨nd, rfl⟩⟩; (try first | exact ⟨rfl, _, World.drewN_drewN _ _ _⟩ | exact ⟨rfl, _, Eq.trans (World.drewN_drewN _ _ _) (congrArg (World.drewN _) (Nat.add_assoc _ _ _))⟩)) | (go_at_call 49; (with_reducible refine (intermederef12_at.calls a1 3 t180 _ A54.out).mono ?_); rintro e w' ⟨rfl, ⟨nd, rfl⟩⟩; (try first | exact ⟨rfl, _, World.drewN_drewN _ _ _⟩ | exact ⟨rfl, _, Eq.trans (World.drewN_drewN _ _ _) (congrArg (World.drewN _) (Nat.add_assoc _ _ _))⟩)) | (go_at_call 34; (with_reducible refine (intermederef12_Sign.calls kj3 a0 t164 t181 false _ A57.out).mono ?_); rintro e w62 ⟨rfl, hb⟩; have n0_ := Aside0.mk (below_step (by repeat (first | (with_reducible first | exact HB.out | apply below_alloc | apply pw_below_drewN | apply below_drew1) | exact HB.out)) hb); clear HB; have HB := n0_; clear n0_; (try clear hb); (try clear hb2); (try clear hk); (try clear hi))); try go_wp2_with (first | (go_at_call 49; (with_reducible refine (intermederef12_at.calls a1 1 t178 _ A52.out).mono ?_); rintro e w' ⟨rfl, ⟨nd, rfl⟩⟩; (try first | exact ⟨rfl, _, World.drewN_drewN _ _ _⟩ | exact ⟨rfl, _, Eq.trans (World.drewN_drewN _ _ _) (congrArg (World.drewN _) (Nat.add_assoc _ _ _))⟩)) | (go_at_call 49; (with_reducible refine (intermederef12_at.calls a1 2 t179 _ A53.out).mono ?_); rintro e w' ⟨rfl, ⟨nd, rfl⟩⟩; (try first | exact ⟨rfl, _, World.drewN_drewN _ _ _⟩ | exact ⟨rfl, _, Eq.trans (World.drewN_drewN _ _ _) (congrArg (World.drewN _) (Nat.add_assoc _ _ _))⟩)) | (go_at_call 49; (with_reducible refine (intermederef12_at.calls a1 3 t180 _ A54.out).mono ?_); rintro e w' ⟨rfl, ⟨nd, rfl⟩⟩; (try first | exact ⟨rfl, _, World.drewN_drewN _ _ _⟩ | exact ⟨rfl, _, Eq.trans (World.drewN_drewN _ _ _) (congrArg (World.drewN _) (Nat.add_assoc _ _ _))⟩)) | (go_at_call 34; (with_reducible refine (intermederef12_Sign.calls kj3 a0 t164 t181 false _ A57.out).mono ?_); rintro e w62 ⟨rfl, hb⟩; have n0_ := Aside0.mk (below_step (by repeat (first | (with_reducible first | exact HB.out | apply below_alloc | apply pw_below_drewN | apply below_drew1) | exact HB.out)) hb); clear HB; have HB := n0_; clear n0_; (try clear hb); (try clear hb2); (try clear hk); (try clear hi))))
                    go_ret3
                    exact ⟨by first | rfl | (simp [errW_none, errW_some] <;> rfl) | (simp [*, errW_none, errW_some] <;> rfl), by repeat (first | (with_reducible first | exact HB.out | apply below_alloc | apply pw_below_drewN | apply below_drew1) | exact HB.out)⟩
              · rw [if_neg c55] at H
                have c55b0 : decide (t164 < 128) = false := decide_eq_false c55
                clear c55
                by_cases c63 : t164 < 224
                · rw [if_pos c63] at H
                  have c63b0 : decide (t164 < 224) = true := decide_eq_true c63
                  clear c63
                  by_cases c64 : (a1.size : Int) < 2
                  · rw [if_pos c64] at H
                    have c64b0 : decide ((a1.size : Int) < 2) = true := decide_eq_true c64
                    have c64b1 : decide (a1.size < 2) = true := decide_eq_true (by omega)
                    clear c64
                    simp only [Option.some.injEq, Prod.mk.injEq] at H
                    obtain ⟨rfl, rfl, rfl⟩ := H
                    go_wp2_with (first | (go_at_call 49; (with_reducible refine (intermederef12_at.calls a1 1 t178 _ A52.out).mono ?_); rintro e w' ⟨rfl, ⟨nd, rfl⟩⟩; (try first | exact ⟨rfl, _, World.drewN_drewN _ _ _⟩ | exact ⟨rfl, _, Eq.trans (World.drewN_drewN _ _ _) (congrArg (World.drewN _) (Nat.add_assoc _ _ _))⟩)) | (go_at_call 49; (with_reducible refine (intermederef12_at.calls a1 2 t179 _ A53.out).mono ?_); rintro e w' ⟨rfl, ⟨nd, rfl⟩⟩; (try first | exact ⟨rfl, _, World.drewN_drewN _ _ _⟩ | exact ⟨rfl, _, Eq.trans (World.drewN_drewN _ _ _) (congrArg (World.drewN _) (Nat.add_assoc _ _ _))⟩)) | (go_at_call 49; (with_reducible refine (intermederef12_at.calls a1 3 t180 _ A54.out).mono ?_); rintro e w' ⟨rfl, ⟨nd, rfl⟩⟩; (try first | exact ⟨rfl, _, World.drewN_drewN _ _ _⟩ | exact ⟨rfl, _, Eq.trans (World.drewN_drewN _ _ _) (congrArg (World.drewN _) (Nat.add_assoc _ _ _))⟩)))
                    repeat (go_quiet (first | (go_at_call 49; (with_reducible refine (intermederef12_at.calls a1 1 t178 _ A52.out).mono ?_); rintro e w' ⟨rfl, ⟨nd, rfl⟩⟩; (try first | exact ⟨rfl, _, World.drewN_drewN _ _ _⟩ | exact ⟨rfl, _, Eq.trans (World.drewN_drewN _ _ _) (congrArg (World.drewN _) (Nat.add_assoc _ _ _))⟩)) | (go_at_call 49; (with_reducible refine (intermederef12_at.calls a1 2 t179 _ A53.out).mono ?_); rintro e w' ⟨rfl, ⟨nd, rfl⟩⟩; (try first | exact ⟨rfl, _, World.drewN_drewN _ _ _⟩ | exact ⟨rfl, _, Eq.trans (World.drewN_drewN _ _ _) (congrArg (World.drewN _) (Nat.add_assoc _ _ _))⟩)) | (go_at_call 49; (with_reducible refine (intermederef12_at.calls a1 3 t180 _ A54.out).mono ?_); rintro e w' ⟨rfl, ⟨nd, rfl⟩⟩; (try first | exact ⟨rfl, _, World.drewN_drewN _ _ _⟩ | exact ⟨rfl, _, Eq.trans (World.drewN_drewN _ _ _) (congrArg (World.drewN _) (Nat.add_assoc _ _ _))⟩))); try go_wp2_with (first | (go_at_call 49; (with_reducible refine (intermederef12_at.calls a1 1 t178 _ A52.out).mono ?_); rintro e w' ⟨rfl, ⟨nd, rfl⟩⟩; (try first | exact ⟨rfl, _, World.drewN_drewN _ _ _⟩ | exact ⟨rfl, _, Eq.trans (World.drewN_drewN _ _ _) (congrArg (World.drewN _) (Nat.add_assoc _ _ _))⟩)) | (go_at_call 49; (with_reducible refine (intermederef12_at.calls a1 2 t179 _ A53.out).mono ?_); rintro e w' ⟨rfl, ⟨nd, rfl⟩⟩; (try first | exact ⟨rfl, _, World.drewN_drewN _ _ _⟩ | exact ⟨rfl, _, Eq.trans (World.drewN_drewN _ _ _) (congrArg (World.drewN _) (Nat.add_assoc _ _ _))⟩)) | (go_at_call 49; (with_reducible refine (intermederef12_at.calls a1 3 t180 _ A54.out).mono ?_); rintro e w' ⟨rfl, ⟨nd, rfl⟩⟩; (try first | exact ⟨rfl, _, World.drewN_drewN _ _ _⟩ | exact ⟨rfl, _, Eq.trans (World.drewN_drewN _ _ _) (congrArg (World.drewN _) (Nat.add_assoc _ _ _))⟩))))
                    go_ret3
                    exact ⟨by first | rfl | (simp [errW_none, errW_some] <;> rfl) | (simp [*, errW_none, errW_some] <;> rfl), by repeat (first | (with_reducible first | exact HB.out | apply below_alloc | apply pw_below_drewN | apply below_drew1) | exact HB.out)⟩
                  · rw [if_neg c64] at H
                    have c64b0 : decide ((a1.size : Int) < 2) = false := decide_eq_false c64
                    have c64b1 : decide (a1.size < 2) = false := decide_eq_false (by omega)
                    clear c64
                    replace H := Option.bind_eq_some_iff.mp H
                    obtain ⟨⟨t183, t184⟩, A650, H⟩ := H
                    replace H : (if t184 = true then (if 0 ≤ 2 then (if 2 ≤ (a1.size : Int) then (some (wrap64 ((wrap64 ((Int.tmod t164 32) * 64)) + (Int.tmod t178 64)), 2, (t183.toList == (a1.extract 0 2).toList))) else (none)) else (none)) else (some (wrap64 ((wrap64 ((Int.tmod t164 32) * 64)) + (Int.tmod t178 64)), 2, false))) = some (r1, r2, r3) := H
                    have A65 := Aside0.mk A650
                    clear A650
                    by_cases c66 : t184 = true
                    · subst c66
                      have H1 : (if 0 ≤ 2 then (if 2 ≤ (a1.size : Int) then (some (wrap64 ((wrap64 ((Int.tmod t164 32) * 64)) + (Int.tmod t178 64)), 2, (t183.toList == (a1.extract 0 2).toList))) else (none)) else (none)) = some (r1, r2, r3) := by rw [if_pos rfl] at H; exact H
                      clear H
                      have H := H1
                      clear H1
                      by_cases c67 : 0 ≤ 2
                      · rw [if_pos c67] at H
                        have c67b0 := eq_true c67
                        have c67b1 : decide (0 ≤ 2) = true := decide_eq_true c67
                        clear c67
                        by_cases c68 : 2 ≤ (a1.size : Int)
                        · rw [if_pos c68] at H
                          have c68b0 := eq_true c68
                          have c68b1 : decide (2 ≤ (a1.size : Int)) = true := decide_eq_true c68
                          clear c68
                          simp only [Option.some.injEq, Prod.mk.injEq] at H
                          obtain ⟨rfl, rfl, rfl⟩ := H
                          go_wp2_with (first | (go_at_call 49; (with_reducible refine (intermederef12_at.calls a1 1 t178 _ A52.out).mono ?_); rintro e w' ⟨rfl, ⟨nd, rfl⟩⟩; (try first | exact ⟨rfl, _, World.drewN_drewN _ _ _⟩ | exact ⟨rfl, _, Eq.trans (World.drewN_drewN _ _ _) (congrArg (World.drewN _) (Nat.add_assoc _ _ _))⟩)) | (go_at_call 49; (with_reducible refine (intermederef12_at.calls a1 2 t179 _ A53.out).mono ?_); rintro e w' ⟨rfl, ⟨nd, rfl⟩⟩; (try first | exact ⟨rfl, _, World.drewN_drewN _ _ _⟩ | exact ⟨rfl, _, Eq.trans (World.drewN_drewN _ _ _) (congrArg (World.drewN _) (Nat.add_assoc _ _ _))⟩)) | (go_at_call 49; (with_reducible refine (intermederef12_at.calls a1 3 t180 _ A54.out).mono ?_); rintro e w' ⟨rfl, ⟨nd, rfl⟩⟩; (try first | exact ⟨rfl, _, World.drewN_drewN _ _ _⟩ | exact ⟨rfl, _, Eq.trans (World.drewN_drewN _ _ _) (congrArg (World.drewN _) (Nat.add_assoc _ _ _))⟩)) | (go_at_call 34; (with_reducible refine (intermederef12_Sign.calls kj3 a0 (wrap64 ((wrap64 ((Int.tmod t164 32) * 64)) + (Int.tmod t178 64))) t183 true _ A65.out).mono ?_); rintro e w69 ⟨rfl, hb⟩; have n0_ := Aside0.mk (below_step (by repeat (first | (with_reducible first | exact HB.out | apply below_alloc | apply pw_below_drewN | apply below_drew1) | exact HB.out)) hb); clear HB; have HB := n0_; clear n0_; (try clear hb); (try clear hb2); (try clear hk); (try clear hi)))
                          repeat (go_quiet (first | (go_at_call 49; (with_reducible refine (intermederef12_at.calls a1 1 t178 _ A52.out).mono ?_); rintro e w' ⟨rfl, ⟨nd, rfl⟩⟩; (try first | exact ⟨rfl, _, World.drewN_drewN _ _ _⟩ | exact ⟨rfl, _, Eq.trans (World.drewN_drewN _ _ _) (congrArg (World.drewN _) (Nat.add_assoc _ _ _))⟩)) | (go_at_call 49; (with_reducible refine (intermederef12_at.calls a1 2 t179 _ A53.out).mono ?_); rintro e w' ⟨rfl, ⟨nd, rfl⟩⟩; (try first | exact ⟨rfl, _, World.drewN_drewN _ _ _⟩ | exact ⟨rfl, _, Eq.trans (World.drewN_drewN _ _ _) (congrArg (World.drewN _) (Nat.add_assoc _ _ _))⟩)) | (go_at_call 49; (with_reducible refine (intermederef12_at.calls a1 3 t180 _ A54.out).mono ?_); rintro e w' ⟨rfl, ⟨nd, rfl⟩⟩; (try first | exact ⟨rfl, _, World.drewN_drewN _ _ _⟩ | exact ⟨rfl, _, Eq.trans (World.drewN_drewN _ _ _) (congrArg (World.drewN _) (Nat.add_assoc _ _ _))⟩)) | (go_at_call 34; (with_reducible refine (intermederef12_Sign.calls kj3 a0 (wrap64 ((wrap64 ((Int.tmod t164 32) * 64)) + (Int.tmod t178 64))) t183 true _ A65.out).mono ?_); rintro e w69 ⟨rfl, hb⟩; have n0_ := Aside0.mk (below_step (by repeat (first | (with_reducible first | exact HB.out | apply below_alloc | apply pw_below_drewN | apply below_drew1) | exact HB.out)) hb); clear HB; have HB := n0_; clear n0_; (try clear hb); (try clear hb2); (try clear hk); (try clear hi))); try go_wp2_with (first | (go_at_call 49; (with_reducible refine (intermederef12_at.calls a1 1 t178 _ A52.out).mono ?_); rintro e w' ⟨rfl, ⟨nd, rfl⟩⟩; (try first | exact ⟨rfl, _, World.drewN_drewN _ _ _⟩ | exact ⟨rfl, _, Eq.trans (World.drewN_drewN _ _ _) (congrArg (World.drewN _) (Nat.add_assoc _ _ _))⟩)) | (go_at_call 49; (with_reducible refine (intermederef12_at.calls a1 2 t179 _ A53.out).mono ?_); rintro e w' ⟨rfl, ⟨nd, rfl⟩⟩; (try first | exact ⟨rfl, _, World.drewN_drewN _ _ _⟩ | exact ⟨rfl, _, Eq.trans (World.drewN_drewN _ _ _) (congrArg (World.drewN _) (Nat.add_assoc _ _ _))⟩)) | (go_at_call 49; (with_reducible refine (intermederef12_at.calls a1 3 t180 _ A54.out).mono ?_); rintro e w' ⟨rfl, ⟨nd, rfl⟩⟩; (try first | exact ⟨rfl, _, World.drewN_drewN _ _ _⟩ | exact ⟨rfl, _, Eq.trans (World.drewN_drewN _ _ _) (congrArg (World.drewN _) (Nat.add_assoc _ _ _))⟩)) | (go_at_call 34; (with_reducible refine (intermederef12_Sign.calls kj3 a0 (wrap64 ((wrap64 ((Int.tmod t164 32) * 64)) + (Int.tmod t178 64))) t183 true _ A65.out).mono ?_); rintro e w69 ⟨rfl, hb⟩; have n0_ := Aside0.mk (below_step (by repeat (first | (with_reducible first | exact HB.out | apply below_alloc | apply pw_below_drewN | apply below_drew1) | exact HB.out)) hb); clear HB; have HB := n0_; clear n0_; (try clear hb); (try clear hb2); (try clear hk); (try clear hi))))
                          go_ret3
                          exact ⟨by first | rfl | (simp [errW_none, errW_some] <;> rfl) | (simp [*, errW_none, errW_some] <;> rfl), by repeat (first | (with_reducible first | exact HB.out | apply below_alloc | apply pw_below_drewN | apply below_drew1) | exact HB.out)⟩
                        · rw [if_neg c68] at H
                          exact absurd H (by simp)
                      · rw [if_neg c67] at H
                        exact absurd H (by simp)
                    · replace c66 := Bool.eq_false_iff.mpr c66
                      subst c66
                      have H1 : (some (wrap64 ((wrap64 ((Int.tmod t164 32) * 64)) + (Int.tmod t178 64)), 2, false)) = some (r1, r2, r3) := by rw [if_neg (show ¬ (false = true) by decide)] at H; exact H
                      clear H
                      have H := H1
                      clear H1
                      simp only [Option.some.injEq, Prod.mk.injEq] at H
                      obtain ⟨rfl, rfl, rfl⟩ := H
                      go_wp2_with (first | (go_at_call 49; (with_reducible refine (intermederef12_at.calls a1 1 t178 _ A52.out).mono ?_); rintro e w' ⟨rfl, ⟨nd, rfl⟩⟩; (try first | exact ⟨rfl, _, World.drewN_drewN _ _ _⟩ | exact ⟨rfl, _, Eq.trans (World.drewN_drewN _ _ _) (congrArg (World.drewN _) (Nat.add_assoc _ _ _))⟩)) | (go_at_call 49; (with_reducible refine (intermederef12_at.calls a1 2 t179 _ A53.out).mono ?_); rintro e w' ⟨rfl, ⟨nd, rfl⟩⟩; (try first | exact ⟨rfl, _, World.drewN_drewN _ _ _⟩ | exact ⟨rfl, _, Eq.trans (World.drewN_drewN _ _ _) (congrArg (World.drewN _) (Nat.add_assoc _ _ _))⟩)) | (go_at_call 49; (with_reducible refine (intermederef12_at.calls a1 3 t180 _ A54.out).mono ?_); rintro e w' ⟨rfl, ⟨nd, rfl⟩⟩; (try first | exact ⟨rfl, _, World.drewN_drewN _ _ _⟩ | exact ⟨rfl, _, Eq.trans (World.drewN_drewN _ _ _) (congrArg (World.drewN _) (Nat.add_assoc _ _ _))⟩)) | (go_at_call 34; (with_reducible refine (intermederef12_Sign.calls kj3 a0 (wrap64 ((wrap64 ((Int.tmod t164 32) * 64)) + (Int.tmod t178 64))) t183 false _ A65.out).mono ?_); rintro e w70 ⟨rfl, hb⟩; have n0_ := Aside0.mk (below_step (by repeat (first | (with_reducible first | exact HB.out | apply below_alloc | apply pw_below_drewN | apply below_drew1) | exact HB.out)) hb); clear HB; have HB := n0_; clear n0_; (try clear hb); (try clear hb2); (try clear hk); (try clear hi)))
                      repeat (go_quiet (first | (go_at_call 49; (with_reducible refine (intermederef12_at.calls a1 1 t178 _ A52.out).mono ?_); rintro e w' ⟨rfl, ⟨nd, rfl⟩⟩; (try first | exact ⟨rfl, _, World.drewN_drewN _ _ _⟩ | exact ⟨rfl, _, Eq.trans (World.drewN_drewN _ _ _) (congrArg (World.drewN _) (Nat.add_assoc _ _ _))⟩)) | (go_at_call 49; (with_reducible refine (intermederef12_at.calls a1 2 t179 _ A53.out).mono ?_); rintro e w' ⟨rfl, ⟨nd, rfl⟩⟩; (try first | exact ⟨rfl, _, World.drewN_drewN _ _ _⟩ | exact ⟨rfl, _, Eq.trans (World.drewN_drewN _ _ _) (congrArg (World.drewN _) (Nat.add_assoc _ _ _))⟩)) | (go_at_call 49; (with_reducible refine (intermederef12_at.calls a1 3 t180 _ A54.out).mono ?_); rintro e w' ⟨rfl, ⟨nd, rfl⟩⟩; (try first | exact ⟨rfl, _, World.drewN_drewN _ _ _⟩ | exact ⟨rfl, _, Eq.trans (World.drewN_drewN _ _ _) (congrArg (World.drewN _) (Nat.add_assoc _ _ _))⟩)) | (go_at_call 34; (with_reducible refine (intermederef12_Sign.calls kj3 a0 (wrap64 ((wrap64 ((Int.tmod t164 32) * 64)) + (Int.tmod t178 64))) t183 false _ A65.out).mono ?_); rintro e w70 ⟨rfl, hb⟩; have n0_ := Aside0.mk (below_step (by repeat (first | (with_reducible first | exact HB.out | apply below_alloc | apply pw_below_drewN | apply below_drew1) | exact HB.out)) hb); clear HB; have HB := n0_; clear n0_; (try clear hb); (try clear hb2); (try clear hk); (try clear hi))); try go_wp2_with (first | (go_at_call 49; (with_reducible refine (intermederef12_at.calls a1 1 t178 _ A52.out).mono ?_); rintro e w' ⟨rfl, ⟨nd, rfl⟩⟩; (try first | exact ⟨rfl, _, World.drewN_drewN _ _ _⟩ | exact ⟨rfl, _, Eq.trans (World.drewN_drewN _ _ _) (congrArg (World.drewN _) (Nat.add_assoc _ _ _))⟩)) | (go_at_call 49; (with_reducible refine (intermederef12_at.calls a1 2 t179 _ A53.out).mono ?_); rintro e w' ⟨rfl, ⟨nd, rfl⟩⟩; (try first | exact ⟨rfl, _, World.drewN_drewN _ _ _⟩ | exact ⟨rfl, _, Eq.trans (World.drewN_drewN _ _ _) (congrArg (World.drewN _) (Nat.add_assoc _ _ _))⟩)) | (go_at_call 49; (with_reducible refine (intermederef12_at.calls a1 3 t180 _ A54.out).mono ?_); rintro e w' ⟨rfl, ⟨nd, rfl⟩⟩; (try first | exact ⟨rfl, _, World.drewN_drewN _ _ _⟩ | exact ⟨rfl, _, Eq.trans (World.drewN_drewN _ _ _) (congrArg (World.drewN _) (Nat.add_assoc _ _ _))⟩)) | (go_at_call 34; (with_reducible refine (intermederef12_Sign.calls kj3 a0 (wrap64 ((wrap64 ((Int.tmod t164 32) * 64)) + (Int.tmod t178 64))) t183 false _ A65.out).mono ?_); rintro e w70 ⟨rfl, hb⟩; have n0_ := Aside0.mk (below_step (by repeat (first | (with_reducible first | exact HB.out | apply below_alloc | apply pw_below_drewN | apply below_drew1) | exact HB.out)) hb); clear HB; have HB := n0_; clear n0_; (try clear hb); (try clear hb2); (try clear hk); (try clear hi))))
                      go_ret3
                      exact ⟨by first | rfl | (simp [errW_none, errW_some] <;> rfl) | (simp [*, errW_none, errW_some] <;> rfl), by repeat (first | (with_reducible first | exact HB.out | apply below_alloc | apply pw_below_drewN | apply below_drew1) | exact HB.out)⟩
                · rw [if_neg c63] at H
                  have c63b0 : decide (t164 < 224) = false := decide_eq_false c63
                  clear c63
                  by_cases c71 : t164 < 240
                  · rw [if_pos c71] at H
                    have c71b0 : decide (t164 < 240) = true := decide_eq_true c71
                    clear c71
                    by_cases c72 : (a1.size : Int) < 3
                    · rw [if_pos c72] at H
                      have c72b0 : decide ((a1.size : Int) < 3) = true := decide_eq_true c72
                      have c72b1 : decide (a1.size < 3) = true := decide_eq_true (by omega)
                      clear c72
                      simp only [Option.some.injEq, Prod.mk.injEq] at H
                      obtain ⟨rfl, rfl, rfl⟩ := H
                      go_wp2_with (first | (go_at_call 49; (with_reducible refine (intermederef12_at.calls a1 1 t178 _ A52.out).mono ?_); rintro e w' ⟨rfl, ⟨nd, rfl⟩⟩; (try first | exact ⟨rfl, _, World.drewN_drewN _ _ _⟩ | exact ⟨rfl, _, Eq.trans (World.drewN_drewN _ _ _) (congrArg (World.drewN _) (Nat.add_assoc _ _ _))⟩)) | (go_at_call 49; (with_reducible refine (intermederef12_at.calls a1 2 t179 _ A53.out).mono ?_); rintro e w' ⟨rfl, ⟨nd, rfl⟩⟩; (try first | exact ⟨rfl, _, World.drewN_drewN _ _ _⟩ | exact ⟨rfl, _, Eq.trans (World.drewN_drewN _ _ _) (congrArg (World.drewN _) (Nat.add_assoc _ _ _))⟩)) | (go_at_call 49; (with_reducible refine (intermederef12_at.calls a1 3 t180 _ A54.out).mono ?_); rintro e w' ⟨rfl, ⟨nd, rfl⟩⟩; (try first | exact ⟨rfl, _, World.drewN_drewN _ _ _⟩ | exact ⟨rfl, _, Eq.trans (World.drewN_drewN _ _ _) (congrArg (World.drewN _) (Nat.add_assoc _ _ _))⟩)))
                      repeat (go_quiet (first | (go_at_call 49; (with_reducible refine (intermederef12_at.calls a1 1 t178 _ A52.out).mono ?_); rintro e w' ⟨rfl, ⟨nd, rfl⟩⟩; (try first | exact ⟨rfl, _, World.drewN_drewN _ _ _⟩ | exact ⟨rfl, _, Eq.trans (World.drewN_drewN _ _ _) (congrArg (World.drewN _) (Nat.add_assoc _ _ _))⟩)) | (go_at_call 49; (with_reducible refine (intermederef12_at.calls a1 2 t179 _ A53.out).mono ?_); rintro e w' ⟨rfl, ⟨nd, rfl⟩⟩; (try first | exact ⟨rfl, _, World.drewN_drewN _ _ _⟩ | exact ⟨rfl, _, Eq.trans (World.drewN_drewN _ _ _) (congrArg (World.drewN _) (Nat.add_assoc _ _ _))⟩)) | (go_at_call 49; (with_reducible refine (intermederef12_at.calls a1 3 t180 _ A54.out).mono ?_); rintro e w' ⟨rfl, ⟨nd, rfl⟩⟩; (try first | exact ⟨rfl, _, World.drewN_drewN _ _ _⟩ | exact ⟨rfl, _, Eq.trans (World.drewN_drewN _ _ _) (congrArg (World.drewN _) (Nat.add_assoc _ _ _))⟩))); try go_wp2_with (first | (go_at_call 49; (with_reducible refine (intermederef12_at.calls a1 1 t178 _ A52.out).mono ?_); rintro e w' ⟨rfl, ⟨nd, rfl⟩⟩; (try first | exact ⟨rfl, _, World.drewN_drewN _ _ _⟩ | exact ⟨rfl, _, Eq.trans (World.drewN_drewN _ _ _) (congrArg (World.drewN _) (Nat.add_assoc _ _ _))⟩)) | (go_at_call 49; (with_reducible refine (intermederef12_at.calls a1 2 t179 _ A53.out).mono ?_); rintro e w' ⟨rfl, ⟨nd, rfl⟩⟩; (try first | exact ⟨rfl, _, World.drewN_drewN _ _ _⟩ | exact ⟨rfl, _, Eq.trans (World.drewN_drewN _ _ _) (congrArg (World.drewN _) (Nat.add_assoc _ _ _))⟩)) | (go_at_call 49; (with_reducible refine (intermederef12_at.calls a1 3 t180 _ A54.out).mono ?_); rintro e w' ⟨rfl, ⟨nd, rfl⟩⟩; (try first | exact ⟨rfl, _, World.drewN_drewN _ _ _⟩ | exact ⟨rfl, _, Eq.trans (World.drewN_drewN _ _ _) (congrArg (World.drewN _) (Nat.add_assoc _ _ _))⟩))))
                      go_ret3
                      exact ⟨by first | rfl | (simp [errW_none, errW_some] <;> rfl) | (simp [*, errW_none, errW_some] <;> rfl), by repeat (first | (with_reducible first | exact HB.out | apply below_alloc | apply pw_below_drewN | apply below_drew1) | exact HB.out)⟩
                    · rw [if_neg c72] at H
                      have c72b0 : decide ((a1.size : Int) < 3) = false := decide_eq_false c72
                      have c72b1 : decide (a1.size < 3) = false := decide_eq_false (by omega)
                      clear c72
                      replace H := Option.bind_eq_some_iff.mp H
                      obtain ⟨⟨t185, t186⟩, A730, H⟩ := H
                      replace H : (if t186 = true then (if 0 ≤ 3 then (if 3 ≤ (a1.size : Int) then (some (wrap64 ((wrap64 ((wrap64 ((Int.tmod t164 16) * 4096)) + (wrap64 ((Int.tmod t178 64) * 64)))) + (Int.tmod t179 64)), 3, (t185.toList == (a1.extract 0 3).toList))) else (none)) else (none)) else (some (wrap64 ((wrap64 ((wrap64 ((Int.tmod t164 16) * 4096)) + (wrap64 ((Int.tmod t178 64) * 64)))) + (Int.tmod t179 64)), 3, false))) = some (r1, r2, r3) := H
                      have A73 := Aside0.mk A730
                      clear A730
                      by_cases c74 : t186 = true
                      · subst c74
                        have H1 : (if 0 ≤ 3 then (if 3 ≤ (a1.size : Int) then (some (wrap64 ((wrap64 ((wrap64 ((Int.tmod t164 16) * 4096)) + (wrap64 ((Int.tmod t178 64) * 64)))) + (Int.tmod t179 64)), 3, (t185.toList == (a1.extract 0 3).toList))) else (none)) else (none)) = some (r1, r2, r3) := by rw [if_pos rfl] at H; exact H
                        clear H
                        have H := H1
                        clear H1
                        by_cases c75 : 0 ≤ 3
                        · rw [if_pos c75] at H
                          have c75b0 := eq_true c75
                          have c75b1 : decide (0 ≤ 3) = true := decide_eq_true c75
                          clear c75
                          by_cases c76 : 3 ≤ (a1.size : Int)
                          · rw [if_pos c76] at H
                            have c76b0 := eq_true c76
                            have c76b1 : decide (3 ≤ (a1.size : Int)) = true := decide_eq_true c76
                            clear c76
                            simp only [Option.some.injEq, Prod.mk.injEq] at H
                            obtain ⟨rfl, rfl, rfl⟩ := H
                            go_wp2_with (first | (go_at_call 49; (with_reducible refine (intermederef12_at.calls a1 1 t178 _ A52.out).mono ?_); rintro e w' ⟨rfl, ⟨nd, rfl⟩⟩; (try first | exact ⟨rfl, _, World.drewN_drewN _ _ _⟩ | exact ⟨rfl, _, Eq.trans (World.drewN_drewN _ _ _) (congrArg (World.drewN _) (Nat.add_assoc _ _ _))⟩)) | (go_at_call 49; (with_reducible refine (intermederef12_at.calls a1 2 t179 _ A53.out).mono ?_); rintro e w' ⟨rfl, ⟨nd, rfl⟩⟩; (try first | exact ⟨rfl, _, World.drewN_drewN _ _ _⟩ | exact ⟨rfl, _, Eq.trans (World.drewN_drewN _ _ _) (congrArg (World.drewN _) (Nat.add_assoc _ _ _))⟩)) | (go_at_call 49; (with_reducible refine (intermederef12_at.calls a1 3 t180 _ A54.out).mono ?_); rintro e w' ⟨rfl, ⟨nd, rfl⟩⟩; (try first | exact ⟨rfl, _, World.drewN_drewN _ _ _⟩ | exact ⟨rfl, _, Eq.trans (World.drewN_drewN _ _ _) (congrArg (World.drewN _) (Nat.add_assoc _ _ _))⟩)) | (go_at_call 34; (with_reducible refine (intermederef12_Sign.calls kj3 a0 (wrap64 ((wrap64 ((wrap64 ((Int.tmod t164 16) * 4096)) + (wrap64 ((Int.tmod t178 64) * 64)))) + (Int.tmod t179 64))) t185 true _ A73.out).mono ?_); rintro e w77 ⟨rfl, hb⟩; have n0_ := Aside0.mk (below_step (by repeat (first | (with_reducible first | exact HB.out | apply below_alloc | apply pw_below_drewN | apply below_drew1) | exact HB.out)) hb); clear HB; have HB := n0_; clear n0_; (try clear hb); (try clear hb2); (try clear hk); (try clear hi)))
                            repeat (go_quiet (first | (go_at_call 49; (with_reducible refine (intermederef12_at.calls a1 1 t178 _ A52.out).mono ?_); rintro e w' ⟨rfl, ⟨nd, rfl⟩⟩; (try first | exact ⟨rfl, _, World.drewN_drewN _ _ _⟩ | exact ⟨rfl, _, Eq.trans (World.drewN_drewN _ _ _) (congrArg (World.drewN _) (Nat.add_assoc _ _ _))⟩)) | (go_at_call 49; (with_reducible refine (intermederef12_at.calls a1 2 t179 _ A53.out).mono ?_); rintro e w' ⟨rfl, ⟨nd, rfl⟩⟩; (try first | exact ⟨rfl, _, World.drewN_drewN _ _ _⟩ | exact ⟨rfl, _, Eq.trans (World.drewN_drewN _ _ _) (congrArg (World.drewN _) (Nat.add_assoc _ _ _))⟩)) | (go_at_call 49; (with_reducible refine (intermederef12_at.calls a1 3 t180 _ A54.out).mono ?_); rintro e w' ⟨rfl, ⟨nd, rfl⟩⟩; (try first | exact ⟨rfl, _, World.drewN_drewN _ _ _⟩ | exact ⟨rfl, _, Eq.trans (World.drewN_drewN _ _ _) (congrArg (World.drewN _) (Nat.add_assoc _ _ _))⟩)) | (go_at_call 34; (with_reducible refine (intermederef12_Sign.calls kj3 a0 (wrap64 ((wrap64 ((wrap64 ((Int.tmod t164 16) * 4096)) + (wrap64 ((Int.tmod t178 64) * 64)))) + (Int.tmod t179 64))) t185 true _ A73.out).mono ?_); rintro e w77 ⟨rfl, hb⟩; have n0_ := Aside0.mk (below_step (by repeat (first | (with_reducible first | exact HB.out | apply below_alloc | apply pw_below_drewN | apply below_drew1) | exact HB.out)) hb); clear HB; have HB := n0_; clear n0_; (try clear hb); (try clear hb2); (try clear hk); (try clear hi))); try go_wp2_with (first | (go_at_call 49; (with_reducible refine (intermederef12_at.calls a1 1 t178 _ A52.out).mono ?_); rintro e w' ⟨rfl, ⟨nd, rfl⟩⟩; (try first | exact ⟨rfl, _, World.drewN_drewN _ _ _⟩ | exact ⟨rfl, _, Eq.trans (World.drewN_drewN _ _ _) (congrArg (World.drewN _) (Nat.add_assoc _ _ _))⟩)) | (go_at_call 49; (with_reducible refine (intermederef12_at.calls a1 2 t179 _ A53.out).mono ?_); rintro e w' ⟨rfl, ⟨nd, rfl⟩⟩; (try first | exact ⟨rfl, _, World.drewN_drewN _ _ _⟩ | exact ⟨rfl, _, Eq.trans (World.drewN_drewN _ _ _) (congrArg (World.drewN _) (Nat.add_assoc _ _ _))⟩)) | (go_at_call 49; (with_reducible refine (intermederef12_at.calls a1 3 t180 _ A54.out).mono ?_); rintro e w' ⟨rfl, ⟨nd, rfl⟩⟩; (try first | exact ⟨rfl, _, World.drewN_drewN _ _ _⟩ | exact ⟨rfl, _, Eq.trans (World.drewN_drewN _ _ _) (congrArg (World.drewN _) (Nat.add_assoc _ _ _))⟩)) | (go_at_call 34; (with_reducible refine (intermederef12_Sign.calls kj3 a0 (wrap64 ((wrap64 ((wrap64 ((Int.tmod t164 16) * 4096)) + (wrap64 ((Int.tmod t178 64) * 64)))) + (Int.tmod t179 64))) t185 true _ A73.out).mono ?_); rintro e w77 ⟨rfl, hb⟩; have n0_ := Aside0.mk (below_step (by repeat (first | (with_reducible first | exact HB.out | apply below_alloc | apply pw_below_drewN | apply below_drew1) | exact HB.out)) hb); clear HB; have HB := n0_; clear n0_; (try clear hb); (try clear hb2); (try clear hk); (try clear hi))))
                            go_ret3
                            exact ⟨by first | rfl | (simp [errW_none, errW_some] <;> rfl) | (simp [*, errW_none, errW_some] <;> rfl), by repeat (first | (with_reducible first | exact HB.out | apply below_alloc | apply pw_below_drewN | apply below_drew1) | exact HB.out)⟩
                          · rw [if_neg c76] at H
                            exact absurd H (by simp)
                        · rw [if_neg c75] at H
                          exact absurd H (by simp)
                      · replace c74 := Bool.eq_false_iff.mpr c74
                        subst c74
                        have H1 : (some (wrap64 ((wrap64 ((wrap64 ((Int.tmod t164 16) * 4096)) + (wrap64 ((Int.tmod t178 64) * 64)))) + (Int.tmod t179 64)), 3, false)) = some (r1, r2, r3) := by rw [if_neg (show ¬ (false = true) by decide)] at H; exact H
                        clear H
                        have H := H1
                        clear H1
                        simp only [Option.some.injEq, Prod.mk.injEq] at H
                        obtain ⟨rfl, rfl, rfl⟩ := H
                        go_wp2_with (first | (go_at_call 49; (with_reducible refine (intermederef12_at.calls a1 1 t178 _ A52.out).mono ?_); rintro e w' ⟨rfl, ⟨nd, rfl⟩⟩; (try first | exact ⟨rfl, _, World.drewN_drewN _ _ _⟩ | exact ⟨rfl, _, Eq.trans (World.drewN_drewN _ _ _) (congrArg (World.drewN _) (Nat.add_assoc _ _ _))⟩)) | (go_at_call 49; (with_reducible refine (intermederef12_at.calls a1 2 t179 _ A53.out).mono ?_); rintro e w' ⟨rfl, ⟨nd, rfl⟩⟩; (try first | exact ⟨rfl, _, World.drewN_drewN _ _ _⟩ | exact ⟨rfl, _, Eq.trans (World.drewN_drewN _ _ _) (congrArg (World.drewN _) (Nat.add_assoc _ _ _))⟩)) | (go_at_call 49; (with_reducible refine (intermederef12_at.calls a1 3 t180 _ A54.out).mono ?_); rintro e w' ⟨rfl, ⟨nd, rfl⟩⟩; (try first | exact ⟨rfl, _, World.drewN_drewN _ _ _⟩ | exact ⟨rfl, _, Eq.trans (World.drewN_drewN _ _ _) (congrArg (World.drewN _) (Nat.add_assoc _ _ _))⟩)) | (go_at_call 34; (with_reducible refine (intermederef12_Sign.calls kj3 a0 (wrap64 ((wrap64 ((wrap64 ((Int.tmod t164 16) * 4096)) + (wrap64 ((Int.tmod t178 64) * 64)))) + (Int.tmod t179 64))) t185 false _ A73.out).mono ?_); rintro e w78 ⟨rfl, hb⟩; have n0_ := Aside0.mk (below_step (by repeat (first | (with_reducible first | exact HB.out | apply below_alloc | apply pw_below_drewN | apply below_drew1) | exact HB.out)) hb); clear HB; have HB := n0_; clear n0_; (try clear hb); (try clear hb2); (try clear hk); (try clear hi)))
                        repeat (go_quiet (first | (go_at_call 49; (with_reducible refine (intermederef12_at.calls a1 1 t178 _ A52.out).mono ?_); rintro e w' ⟨rfl, ⟨nd, rfl⟩⟩; (try first | exact ⟨rfl, _, World.drewN_drewN _ _ _⟩ | exact ⟨rfl, _, Eq.trans (World.drewN_drewN _ _ _) (congrArg (World.drewN _) (Nat.add_assoc _ _ _))⟩)) | (go_at_call 49; (with_reducible refine (intermederef12_at.calls a1 2 t179 _ A53.out).mono ?_); rintro e w' ⟨rfl, ⟨nd, rfl⟩⟩; (try first | exact ⟨rfl, _, World.drewN_drewN _ _ _⟩ | exact ⟨rfl, _, Eq.trans (World.drewN_drewN _ _ _) (congrArg (World.drewN _) (Nat.add_assoc _ _ _))⟩)) | (go_at_call 49; (with_reducible refine (intermederef12_at.calls a1 3 t180 _ A54.out).mono ?_); rintro e w' ⟨rfl, ⟨nd, rfl⟩⟩; (try first | exact ⟨rfl, _, World.drewN_drewN _ _ _⟩ | exact ⟨rfl, _, Eq.trans (World.drewN_drewN _ _ _) (congrArg (World.drewN _) (Nat.add_assoc _ _ _))⟩)) | (go_at_call 34; (with_reducible refine (intermederef12_Sign.calls kj3 a0 (wrap64 ((wrap64 ((wrap64 ((Int.tmod t164 16) * 4096)) + (wrap64 ((Int.tmod t178 64) * 64)))) + (Int.tmod t179 64))) t185 false _ A73.out).mono ?_); rintro e w78 ⟨rfl, hb⟩; have n0_ := Aside0.mk (below_step (by repeat (first | (with_reducible first | exact HB.out | apply below_alloc | apply pw_below_drewN | apply below_drew1) | exact HB.out)) hb); clear HB; have HB := n0_; clear n0_; (try clear hb); (try clear hb2); (try clear hk); (try clear hi))); try go_wp2_with (first | (go_at_call 49; (with_reducible refine (intermederef12_at.calls a1 1 t178 _ A52.out).mono ?_); rintro e w' ⟨rfl, ⟨nd, rfl⟩⟩; (try first | exact ⟨rfl, _, World.drewN_drewN _ _ _⟩ | exact ⟨rfl, _, Eq.trans (World.drewN_drewN _ _ _) (congrArg (World.drewN _) (Nat.add_assoc _ _ _))⟩)) | (go_at_call 49; (with_reducible refine (intermederef12_at.calls a1 2 t179 _ A53.out).mono ?_); rintro e w' ⟨rfl, ⟨nd, rfl⟩⟩; (try first | exact ⟨rfl, _, World.drewN_drewN _ _ _⟩ | exact ⟨rfl, _, Eq.trans (World.drewN_drewN _ _ _) (congrArg (World.drewN _) (Nat.add_assoc _ _ _))⟩)) | (go_at_call 49; (with_reducible refine (intermederef12_at.calls a1 3 t180 _ A54.out).mono ?_); rintro e w' ⟨rfl, ⟨nd, rfl⟩⟩; (try first | exact ⟨rfl, _, World.drewN_drewN _ _ _⟩ | exact ⟨rfl, _, Eq.trans (World.drewN_drewN _ _ _) (congrArg (World.drewN _) (Nat.add_assoc _ _ _))⟩)) | (go_at_call 34; (with_reducible refine (intermederef12_Sign.calls kj3 a0 (wrap64 ((wrap64 ((wrap64 ((Int.tmod t164 16) * 4096)) + (wrap64 ((Int.tmod t178 64) * 64)))) + (Int.tmod t179 64))) t185 false _ A73.out).mono ?_); rintro e w78 ⟨rfl, hb⟩; have n0_ := Aside0.mk (below_step (by repeat (first | (with_reducible first | exact HB.out | apply below_alloc | apply pw_below_drewN | apply below_drew1) | exact HB.out)) hb); clear HB; have HB := n0_; clear n0_; (try clear hb); (try clear hb2); (try clear hk); (try clear hi))))
                        go_ret3
                        exact ⟨by first | rfl | (simp [errW_none, errW_some] <;> rfl) | (simp [*, errW_none, errW_some] <;> rfl), by repeat (first | (with_reducible first | exact HB.out | apply below_alloc | apply pw_below_drewN | apply below_drew1) | exact HB.out)⟩
                  · rw [if_neg c71] at H
                    have c71b0 : decide (t164 < 240) = false := decide_eq_false c71
                    clear c71
                    by_cases c79 : (a1.size : Int) < 4
                    · rw [if_pos c79] at H
                      have c79b0 : decide ((a1.size : Int) < 4) = true := decide_eq_true c79
                      have c79b1 : decide (a1.size < 4) = true := decide_eq_true (by omega)
                      clear c79
                      simp only [Option.some.injEq, Prod.mk.injEq] at H
                      obtain ⟨rfl, rfl, rfl⟩ := H
                      go_wp2_with (first | (go_at_call 49; (with_reducible refine (intermederef12_at.calls a1 1 t178 _ A52.out).mono ?_); rintro e w' ⟨rfl, ⟨nd, rfl⟩⟩; (try first | exact ⟨rfl, _, World.drewN_drewN _ _ _⟩ | exact ⟨rfl, _, Eq.trans (World.drewN_drewN _ _ _) (congrArg (World.drewN _) (Nat.add_assoc _ _ _))⟩)) | (go_at_call 49; (with_reducible refine (intermederef12_at.calls a1 2 t179 _ A53.out).mono ?_); rintro e w' ⟨rfl, ⟨nd, rfl⟩⟩; (try first | exact ⟨rfl, _, World.drewN_drewN _ _ _⟩ | exact ⟨rfl, _, Eq.trans (World.drewN_drewN _ _ _) (congrArg (World.drewN _) (Nat.add_assoc _ _ _))⟩)) | (go_at_call 49; (with_reducible refine (intermederef12_at.calls a1 3 t180 _ A54.out).mono ?_); rintro e w' ⟨rfl, ⟨nd, rfl⟩⟩; (try first | exact ⟨rfl, _, World.drewN_drewN _ _ _⟩ | exact ⟨rfl, _, Eq.trans (World.drewN_drewN _ _ _) (congrArg (World.drewN _) (Nat.add_assoc _ _ _))⟩)))
                      repeat (go_quiet (first | (go_at_call 49; (with_reducible refine (intermederef12_at.calls a1 1 t178 _ A52.out).mono ?_); rintro e w' ⟨rfl, ⟨nd, rfl⟩⟩; (try first | exact ⟨rfl, _, World.drewN_drewN _ _ _⟩ | exact ⟨rfl, _, Eq.trans (World.drewN_drewN _ _ _) (congrArg (World.drewN _) (Nat.add_assoc _ _ _))⟩)) | (go_at_call 49; (with_reducible refine (intermederef12_at.calls a1 2 t179 _ A53.out).mono ?_); rintro e w' ⟨rfl, ⟨nd, rfl⟩⟩; (try first | exact ⟨rfl, _, World.drewN_drewN _ _ _⟩ | exact ⟨rfl, _, Eq.trans (World.drewN_drewN _ _ _) (congrArg (World.drewN _) (Nat.add_assoc _ _ _))⟩)) | (go_at_call 49; (with_reducible refine (intermederef12_at.calls a1 3 t180 _ A54.out).mono ?_); rintro e w' ⟨rfl, ⟨nd, rfl⟩⟩; (try first | exact ⟨rfl, _, World.drewN_drewN _ _ _⟩ | exact ⟨rfl, _, Eq.trans (World.drewN_drewN _ _ _) (congrArg (World.drewN _) (Nat.add_assoc _ _ _))⟩))); try go_wp2_with (first | (go_at_call 49; (with_reducible refine (intermederef12_at.calls a1 1 t178 _ A52.out).mono ?_); rintro e w' ⟨rfl, ⟨nd, rfl⟩⟩; (try first | exact ⟨rfl, _, World.drewN_drewN _ _ _⟩ | exact ⟨rfl, _, Eq.trans (World.drewN_drewN _ _ _) (congrArg (World.drewN _) (Nat.add_assoc _ _ _))⟩)) | (go_at_call 49; (with_reducible refine (intermederef12_at.calls a1 2 t179 _ A53.out).mono ?_); rintro e w' ⟨rfl, ⟨nd, rfl⟩⟩; (try first | exact ⟨rfl, _, World.drewN_drewN _ _ _⟩ | exact ⟨rfl, _, Eq.trans (World.drewN_drewN _ _ _) (congrArg (World.drewN _) (Nat.add_assoc _ _ _))⟩)) | (go_at_call 49; (with_reducible refine (intermederef12_at.calls a1 3 t180 _ A54.out).mono ?_); rintro e w' ⟨rfl, ⟨nd, rfl⟩⟩; (try first | exact ⟨rfl, _, World.drewN_drewN _ _ _⟩ | exact ⟨rfl, _, Eq.trans (World.drewN_drewN _ _ _) (congrArg (World.drewN _) (Nat.add_assoc _ _ _))⟩))))
                      go_ret3
                      exact ⟨by first | rfl | (simp [errW_none, errW_some] <;> rfl) | (simp [*, errW_none, errW_some] <;> rfl), by repeat (first | (with_reducible first | exact HB.out | apply below_alloc | apply pw_below_drewN | apply below_drew1) | exact HB.out)⟩
                    · rw [if_neg c79] at H
                      have c79b0 : decide ((a1.size : Int) < 4) = false := decide_eq_false c79
                      have c79b1 : decide (a1.size < 4) = false := decide_eq_false (by omega)
                      clear c79
                      replace H := Option.bind_eq_some_iff.mp H
                      obtain ⟨⟨t187, t188⟩, A800, H⟩ := H
                      replace H : (if t188 = true then (if 0 ≤ 4 then (if 4 ≤ (a1.size : Int) then (some (wrap64 ((wrap64 ((wrap64 ((wrap64 ((Int.tmod t164 8) * 262144)) + (wrap64 ((Int.tmod t178 64) * 4096)))) + (wrap64 ((Int.tmod t179 64) * 64)))) + (Int.tmod t180 64)), 4, (t187.toList == (a1.extract 0 4).toList))) else (none)) else (none)) else (some (wrap64 ((wrap64 ((wrap64 ((wrap64 ((Int.tmod t164 8) * 262144)) + (wrap64 ((Int.tmod t178 64) * 4096)))) + (wrap64 ((Int.tmod t179 64) * 64)))) + (Int.tmod t180 64)), 4, false))) = some (r1, r2, r3) := H
                      have A80 := Aside0.mk A800
                      clear A800
                      by_cases c81 : t188 = true
                      · subst c81
                        have H1 : (if 0 ≤ 4 then (if 4 ≤ (a1.size : Int) then (some (wrap64 ((wrap64 ((wrap64 ((wrap64 ((Int.tmod t164 8) * 262144)) + (wrap64 ((Int.tmod t178 64) * 4096)))) + (wrap64 ((Int.tmod t179 64) * 64)))) + (Int.tmod t180 64)), 4, (t187.toList == (a1.extract 0 4).toList))) else (none)) else (none)) = some (r1, r2, r3) := by rw [if_pos rfl] at H; exact H
                        clear H
                        have H := H1
                        clear H1
                        by_cases c82 : 0 ≤ 4
                        · rw [if_pos c82] at H
                          have c82b0 := eq_true c82
                          have c82b1 : decide (0 ≤ 4) = true := decide_eq_true c82
                          clear c82
                          by_cases c83 : 4 ≤ (a1.size : Int)
                          · rw [if_pos c83] at H
                            have c83b0 := eq_true c83
                            have c83b1 : decide (4 ≤ (a1.size : Int)) = true := decide_eq_true c83
                            clear c83
                            simp only [Option.some.injEq, Prod.mk.injEq] at H
                            obtain ⟨rfl, rfl, rfl⟩ := H
                            go_wp2_with (first | (go_at_call 49; (with_reducible refine (intermederef12_at.calls a1 1 t178 _ A52.out).mono ?_); rintro e w' ⟨rfl, ⟨nd, rfl⟩⟩; (try first | exact ⟨rfl, _, World.drewN_drewN _ _ _⟩ | exact ⟨rfl, _, Eq.trans (World.drewN_drewN _ _ _) (congrArg (World.drewN _) (Nat.add_assoc _ _ _))⟩)) | (go_at_call 49; (with_reducible refine (intermederef12_at.calls a1 2 t179 _ A53.out).mono ?_); rintro e w' ⟨rfl, ⟨nd, rfl⟩⟩; (try first | exact ⟨rfl, _, World.drewN_drewN _ _ _⟩ | exact ⟨rfl, _, Eq.trans (World.drewN_drewN _ _ _) (congrArg (World.drewN _) (Nat.add_assoc _ _ _))⟩)) | (go_at_call 49; (with_reducible refine (intermederef12_at.calls a1 3 t180 _ A54.out).mono ?_); rintro e w' ⟨rfl, ⟨nd, rfl⟩⟩; (try first | exact ⟨rfl, _, World.drewN_drewN _ _ _⟩ | exact ⟨rfl, _, Eq.trans (World.drewN_drewN _ _ _) (congrArg (World.drewN _) (Nat.add_assoc _ _ _))⟩)) | (go_at_call 34; (with_reducible refine (intermederef12_Sign.calls kj3 a0 (wrap64 ((wrap64 ((wrap64 ((wrap64 ((Int.tmod t164 8) * 262144)) + (wrap64 ((Int.tmod t178 64) * 4096)))) + (wrap64 ((Int.tmod t179 64) * 64)))) + (Int.tmod t180 64))) t187 true _ A80.out).mono ?_); rintro e w84 ⟨rfl, hb⟩; have n0_ := Aside0.mk (below_step (by repeat (first | (with_reducible first | exact HB.out | apply below_alloc | apply pw_below_drewN | apply below_drew1) | exact HB.out)) hb); clear HB; have HB := n0_; clear n0_; (try clear hb); (try clear hb2); (try clear hk); (try clear hi)))
                            repeat (go_quiet (first | (go_at_call 49; (with_reducible refine (intermederef12_at.calls a1 1 t178 _ A52.out).mono ?_); rintro e w' ⟨rfl, ⟨nd, rfl⟩⟩; (try first | exact ⟨rfl, _, World.drewN_drewN _ _ _⟩ | exact ⟨rfl, _, Eq.trans (World.drewN_drewN _ _ _) (congrArg (World.drewN _) (Nat.add_assoc _ _ _))⟩)) | (go_at_call 49; (with_reducible refine (intermederef12_at.calls a1 2 t179 _ A53.out).mono ?_); rintro e w' ⟨rfl, ⟨nd, rfl⟩⟩; (try first | exact ⟨rfl, _, World.drewN_drewN _ _ _⟩ | exact ⟨rfl, _, Eq.trans (World.drewN_drewN _ _ _) (congrArg (World.drewN _) (Nat.add_assoc _ _ _))⟩)) | (go_at_call 49; (with_reducible refine (intermederef12_at.calls a1 3 t180 _ A54.out).mono ?_); rintro e w' ⟨rfl, ⟨nd, rfl⟩⟩; (try first | exact ⟨rfl, _, World.drewN_drewN _ _ _⟩ | exact ⟨rfl, _, Eq.trans (World.drewN_drewN _ _ _) (congrArg (World.drewN _) (Nat.add_assoc _ _ _))⟩)) | (go_at_call 34; (with_reducible refine (intermederef12_Sign.calls kj3 a0 (wrap64 ((wrap64 ((wrap64 ((wrap64 ((Int.tmod t164 8) * 262144)) + (wrap64 ((Int.tmod t178 64) * 4096)))) + (wrap64 ((Int.tmod t179 64) * 64)))) + (Int.tmod t180 64))) t187 true _ A80.out).mono ?_); rintro e w84 ⟨rfl, hb⟩; have n0_ := Aside0.mk (below_step (by repeat (first | (with_reducible first | exact HB.out | apply below_alloc | apply pw_below_drewN | apply below_drew1) | exact HB.out)) hb); clear HB; have HB := n0_; clear n0_; (try clear hb); (try clear hb2); (try clear hk); (try clear hi))); try go_wp2_with (first | (go_at_call 49; (with_reducible refine (intermederef12_at.calls a1 1 t178 _ A52.out).mono ?_); rintro e w' ⟨rfl, ⟨nd, rfl⟩⟩; (try first | exact ⟨rfl, _, World.drewN_drewN _ _ _⟩ | exact ⟨rfl, _, Eq.trans (World.drewN_drewN _ _ _) (congrArg (World.drewN _) (Nat.add_assoc _ _ _))⟩)) | (go_at_call 49; (with_reducible refine (intermederef12_at.calls a1 2 t179 _ A53.out).mono ?_); rintro e w' ⟨rfl, ⟨nd, rfl⟩⟩; (try first | exact ⟨rfl, _, World.drewN_drewN _ _ _⟩ | exact ⟨rfl, _, Eq.trans (World.drewN_drewN _ _ _) (congrArg (World.drewN _) (Nat.add_assoc _ _ _))⟩)) | (go_at_call 49; (with_reducible refine (intermederef12_at.calls a1 3 t180 _ A54.out).mono ?_); rintro e w' ⟨rfl, ⟨nd, rfl⟩⟩; (try first | exact ⟨rfl, _, World.drewN_drewN _ _ _⟩ | exact ⟨rfl, _, Eq.trans (World.drewN_drewN _ _ _) (congrArg (World.drewN _) (Nat.add_assoc _ _ _))⟩)) | (go_at_call 34; (with_reducible refine (intermederef12_Sign.calls kj3 a0 (wrap64 ((wrap64 ((wrap64 ((wrap64 ((Int.tmod t164 8) * 262144)) + (wrap64 ((Int.tmod t178 64) * 4096)))) + (wrap64 ((Int.tmod t179 64) * 64)))) + (Int.tmod t180 64))) t187 true _ A80.out).mono ?_); rintro e w84 ⟨rfl, hb⟩; have n0_ := Aside0.mk (below_step (by repeat (first | (with_reducible first | exact HB.out | apply below_alloc | apply pw_below_drewN | apply below_drew1) | exact HB.out)) hb); clear HB; have HB := n0_; clear n0_; (try clear hb); (try clear hb2); (try clear hk); (try clear hi))))
                            go_ret3
                            exact ⟨by first | rfl | (simp [errW_none, errW_some] <;> rfl) | (simp [*, errW_none, errW_some] <;> rfl), by repeat (first | (with_reducible first | exact HB.out | apply below_alloc | apply pw_below_drewN | apply below_drew1) | exact HB.out)⟩
                          · rw [if_neg c83] at H
                            exact absurd H (by simp)
                        · rw [if_neg c82] at H
                          exact absurd H (by simp)
                      · replace c81 := Bool.eq_false_iff.mpr c81
                        subst c81
                        have H1 : (some (wrap64 ((wrap64 ((wrap64 ((wrap64 ((Int.tmod t164 8) * 262144)) + (wrap64 ((Int.tmod t178 64) * 4096)))) + (wrap64 ((Int.tmod t179 64) * 64)))) + (Int.tmod t180 64)), 4, false)) = some (r1, r2, r3) := by rw [if_neg (show ¬ (false = true) by decide)] at H; exact H
                        clear H
                        have H := H1
                        clear H1
                        simp only [Option.some.injEq, Prod.mk.injEq] at H
                        obtain ⟨rfl, rfl, rfl⟩ := H
                        go_wp2_with (first | (go_at_call 49; (with_reducible refine (intermederef12_at.calls a1 1 t178 _ A52.out).mono ?_); rintro e w' ⟨rfl, ⟨nd, rfl⟩⟩; (try first | exact ⟨rfl, _, World.drewN_drewN _ _ _⟩ | exact ⟨rfl, _, Eq.trans (World.drewN_drewN _ _ _) (congrArg (World.drewN _) (Nat.add_assoc _ _ _))⟩)) | (go_at_call 49; (with_reducible refine (intermederef12_at.calls a1 2 t179 _ A53.out).mono ?_); rintro e w' ⟨rfl, ⟨nd, rfl⟩⟩; (try first | exact ⟨rfl, _, World.drewN_drewN _ _ _⟩ | exact ⟨rfl, _, Eq.trans (World.drewN_drewN _ _ _) (congrArg (World.drewN _) (Nat.add_assoc _ _ _))⟩)) | (go_at_call 49; (with_reducible refine (intermederef12_at.calls a1 3 t180 _ A54.out).mono ?_); rintro e w' ⟨rfl, ⟨nd, rfl⟩⟩; (try first | exact ⟨rfl, _, World.drewN_drewN _ _ _⟩ | exact ⟨rfl, _, Eq.trans (World.drewN_drewN _ _ _) (congrArg (World.drewN _) (Nat.add_assoc _ _ _))⟩)) | (go_at_call 34; (with_reducible refine (intermederef12_Sign.calls kj3 a0 (wrap64 ((wrap64 ((wrap64 ((wrap64 ((Int.tmod t164 8) * 262144)) + (wrap64 ((Int.tmod t178 64) * 4096)))) + (wrap64 ((Int.tmod t179 64) * 64)))) + (Int.tmod t180 64))) t187 false _ A80.out).mono ?_); rintro e w85 ⟨rfl, hb⟩; have n0_ := Aside0.mk (below_step (by repeat (first | (with_reducible first | exact HB.out | apply below_alloc | apply pw_below_drewN | apply below_drew1) | exact HB.out)) hb); clear HB; have HB := n0_; clear n0_; (try clear hb); (try clear hb2); (try clear hk); (try clear hi)))
                        repeat (go_quiet (first | (go_at_call 49; (with_reducible refine (intermederef12_at.calls a1 1 t178 _ A52.out).mono ?_); rintro e w' ⟨rfl, ⟨nd, rfl⟩⟩; (try first | exact ⟨rfl, _, World.drewN_drewN _ _ _⟩ | exact ⟨rfl, _, Eq.trans (World.drewN_drewN _ _ _) (congrArg (World.drewN _) (Nat.add_assoc _ _ _))⟩)) | (go_at_call 49; (with_reducible refine (intermederef12_at.calls a1 2 t179 _ A53.out).mono ?_); rintro e w' ⟨rfl, ⟨nd, rfl⟩⟩; (try first | exact ⟨rfl, _, World.drewN_drewN _ _ _⟩ | exact ⟨rfl, _, Eq.trans (World.drewN_drewN _ _ _) (congrArg (World.drewN _) (Nat.add_assoc _ _ _))⟩)) | (go_at_call 49; (with_reducible refine (intermederef12_at.calls a1 3 t180 _ A54.out).mono ?_); rintro e w' ⟨rfl, ⟨nd, rfl⟩⟩; (try first | exact ⟨rfl, _, World.drewN_drewN _ _ _⟩ | exact ⟨rfl, _, Eq.trans (World.drewN_drewN _ _ _) (congrArg (World.drewN _) (Nat.add_assoc _ _ _))⟩)) | (go_at_call 34; (with_reducible refine (intermederef12_Sign.calls kj3 a0 (wrap64 ((wrap64 ((wrap64 ((wrap64 ((Int.tmod t164 8) * 262144)) + (wrap64 ((Int.tmod t178 64) * 4096)))) + (wrap64 ((Int.tmod t179 64) * 64)))) + (Int.tmod t180 64))) t187 false _ A80.out).mono ?_); rintro e w85 ⟨rfl, hb⟩; have n0_ := Aside0.mk (below_step (by repeat (first | (with_reducible first | exact HB.out | apply below_alloc | apply pw_below_drewN | apply below_drew1) | exact HB.out)) hb); clear HB; have HB := n0_; clear n0_; (try clear hb); (try clear hb2); (try clear hk); (try clear hi))); try go_wp2_with (first | (go_at_call 49; (with_reducible refine (intermederef12_at.calls a1 1 t178 _ A52.out).mono ?_); rintro e w' ⟨rfl, ⟨nd, rfl⟩⟩; (try first | exact ⟨rfl, _, World.drewN_drewN _ _ _⟩ | exact ⟨rfl, _, Eq.trans (World.drewN_drewN _ _ _) (congrArg (World.drewN _) (Nat.add_assoc _ _ _))⟩)) | (go_at_call 49; (with_reducible refine (intermederef12_at.calls a1 2 t179 _ A53.out).mono ?_); rintro e w' ⟨rfl, ⟨nd, rfl⟩⟩; (try first | exact ⟨rfl, _, World.drewN_drewN _ _ _⟩ | exact ⟨rfl, _, Eq.trans (World.drewN_drewN _ _ _) (congrArg (World.drewN _) (Nat.add_assoc _ _ _))⟩)) | (go_at_call 49; (with_reducible refine (intermederef12_at.calls a1 3 t180 _ A54.out).mono ?_); rintro e w' ⟨rfl, ⟨nd, rfl⟩⟩; (try first | exact ⟨rfl, _, World.drewN_drewN _ _ _⟩ | exact ⟨rfl, _, Eq.trans (World.drewN_drewN _ _ _) (congrArg (World.drewN _) (Nat.add_assoc _ _ _))⟩)) | (go_at_call 34; (with_reducible refine (intermederef12_Sign.calls kj3 a0 (wrap64 ((wrap64 ((wrap64 ((wrap64 ((Int.tmod t164 8) * 262144)) + (wrap64 ((Int.tmod t178 64) * 4096)))) + (wrap64 ((Int.tmod t179 64) * 64)))) + (Int.tmod t180 64))) t187 false _ A80.out).mono ?_); rintro e w85 ⟨rfl, hb⟩; have n0_ := Aside0.mk (below_step (by repeat (first | (with_reducible first | exact HB.out | apply below_alloc | apply pw_below_drewN | apply below_drew1) | exact HB.out)) hb); clear HB; have HB := n0_; clear n0_; (try clear hb); (try clear hb2); (try clear hk); (try clear hi))))
                        go_ret3
                        exact ⟨by first | rfl | (simp [errW_none, errW_some] <;> rfl) | (simp [*, errW_none, errW_some] <;> rfl), by repeat (first | (with_reducible first | exact HB.out | apply below_alloc | apply pw_below_drewN | apply below_drew1) | exact HB.out)⟩
            · rw [if_neg c51] at H
              have c51b0 : (a0 == 3) = false := beq_eq_false_iff_ne.mpr c51
              have c51b1 : (a0 != 3) = true := bne_iff_ne.mpr c51
              by_cases c86 : (a1.size : Int) < 0
              · rw [if_pos c86] at H
                have c86b0 : decide ((a1.size : Int) < 0) = true := decide_eq_true c86
                have c86b1 : decide (a1.size < 0) = true := decide_eq_true (by omega)
                clear c86
                simp only [Option.some.injEq, Prod.mk.injEq] at H
                obtain ⟨rfl, rfl, rfl⟩ := H
                go_wp2
                repeat (go_quiet (fail); try go_wp2)
                go_ret3
                exact ⟨by first | rfl | (simp [errW_none, errW_some] <;> rfl) | (simp [*, errW_none, errW_some] <;> rfl), by repeat (first | (with_reducible first | exact HB.out | apply below_alloc | apply pw_below_drewN | apply below_drew1) | exact HB.out)⟩
              · rw [if_neg c86] at H
                have c86b0 : decide ((a1.size : Int) < 0) = false := decide_eq_false c86
                have c86b1 : decide (a1.size < 0) = false := decide_eq_false (by omega)
                clear c86
                replace H := Option.bind_eq_some_iff.mp H
                obtain ⟨⟨t189, t190⟩, A870, H⟩ := H
                replace H : (if t190 = true then (if 0 ≤ 0 then (if 0 ≤ (a1.size : Int) then (some (0, 0, (t189.toList == (a1.extract 0 (0 : Int).toNat).toList))) else (none)) else (none)) else (some (0, 0, false))) = some (r1, r2, r3) := H
                have A87 := Aside0.mk A870
                clear A870
                by_cases c88 : t190 = true
                · subst c88
                  have H1 : (if 0 ≤ 0 then (if 0 ≤ (a1.size : Int) then (some (0, 0, (t189.toList == (a1.extract 0 (0 : Int).toNat).toList))) else (none)) else (none)) = some (r1, r2, r3) := by rw [if_pos rfl] at H; exact H
                  clear H
                  have H := H1
                  clear H1
                  by_cases c89 : 0 ≤ 0
                  · rw [if_pos c89] at H
                    have c89b0 := eq_true c89
                    have c89b1 : decide (0 ≤ 0) = true := decide_eq_true c89
                    clear c89
                    by_cases c90 : 0 ≤ (a1.size : Int)
                    · rw [if_pos c90] at H
                      have c90b0 := eq_true c90
                      have c90b1 : decide (0 ≤ (a1.size : Int)) = true := decide_eq_true c90
                      clear c90
                      simp only [Option.some.injEq, Prod.mk.injEq] at H
                      obtain ⟨rfl, rfl, rfl⟩ := H
                      go_wp2_with (first | (go_at_call 34; (with_reducible refine (intermederef12_Sign.calls kj3 a0 0 t189 true _ A87.out).mono ?_); rintro e w91 ⟨rfl, hb⟩; have n0_ := Aside0.mk (below_step (by repeat (first | (with_reducible first | exact HB.out | apply below_alloc | apply pw_below_drewN | apply below_drew1) | exact HB.out)) hb); clear HB; have HB := n0_; clear n0_; (try clear hb); (try clear hb2); (try clear hk); (try clear hi)))
                      repeat (go_quiet (first | (go_at_call 34; (with_reducible refine (intermederef12_Sign.calls kj3 a0 0 t189 true _ A87.out).mono ?_); rintro e w91 ⟨rfl, hb⟩; have n0_ := Aside0.mk (below_step (by repeat (first | (with_reducible first | exact HB.out | apply below_alloc | apply pw_below_drewN | apply below_drew1) | exact HB.out)) hb); clear HB; have HB := n0_; clear n0_; (try clear hb); (try clear hb2); (try clear hk); (try clear hi))); try go_wp2_with (first | (go_at_call 34; (with_reducible refine (intermederef12_Sign.calls kj3 a0 0 t189 true _ A87.out).mono ?_); rintro e w91 ⟨rfl, hb⟩; have n0_ := Aside0.mk (below_step (by repeat (first | (with_reducible first | exact HB.out | apply below_alloc | apply pw_below_drewN | apply below_drew1) | exact HB.out)) hb); clear HB; have HB := n0_; clear n0_; (try clear hb); (try clear hb2); (try clear hk); (try clear hi))))
                      go_ret3
                      exact ⟨by first | rfl | (simp [errW_none, errW_some] <;> rfl) | (simp [*, errW_none, errW_some] <;> rfl), by repeat (first | (with_reducible first | exact HB.out | apply below_alloc | apply pw_below_drewN | apply below_drew1) | exact HB.out)⟩
                    · rw [if_neg c90] at H
                      exact absurd H (by simp)
                  · rw [if_neg c89] at H
                    exact absurd H (by simp)
                · replace c88 := Bool.eq_false_iff.mpr c88
                  subst c88
                  have H1 : (some (0, 0, false)) = some (r1, r2, r3) := by rw [if_neg (show ¬ (false = true) by decide)] at H; exact H
                  clear H
                  have H := H1
                  clear H1
                  simp only [Option.some.injEq, Prod.mk.injEq] at H
                  obtain ⟨rfl, rfl, rfl⟩ := H
                  go_wp2_with (first | (go_at_call 34; (with_reducible refine (intermederef12_Sign.calls kj3 a0 0 t189 false _ A87.out).mono ?_); rintro e w92 ⟨rfl, hb⟩; have n0_ := Aside0.mk (below_step (by repeat (first | (with_reducible first | exact HB.out | apply below_alloc | apply pw_below_drewN | apply below_drew1) | exact HB.out)) hb); clear HB; have HB := n0_; clear n0_; (try clear hb); (try clear hb2); (try clear hk); (try clear hi)))
                  repeat (go_quiet (first | (go_at_call 34; (with_reducible refine (intermederef12_Sign.calls kj3 a0 0 t189 false _ A87.out).mono ?_); rintro e w92 ⟨rfl, hb⟩; have n0_ := Aside0.mk (below_step (by repeat (first | (with_reducible first | exact HB.out | apply below_alloc | apply pw_below_drewN | apply below_drew1) | exact HB.out)) hb); clear HB; have HB := n0_; clear n0_; (try clear hb); (try clear hb2); (try clear hk); (try clear hi))); try go_wp2_with (first | (go_at_call 34; (with_reducible refine (intermederef12_Sign.calls kj3 a0 0 t189 false _ A87.out).mono ?_); rintro e w92 ⟨rfl, hb⟩; have n0_ := Aside0.mk (below_step (by repeat (first | (with_reducible first | exact HB.out | apply below_alloc | apply pw_below_drewN | apply below_drew1) | exact HB.out)) hb); clear HB; have HB := n0_; clear n0_; (try clear hb); (try clear hb2); (try clear hk); (try clear hi))))
                  go_ret3
                  exact ⟨by first | rfl | (simp [errW_none, errW_some] <;> rfl) | (simp [*, errW_none, errW_some] <;> rfl), by repeat (first | (with_reducible first | exact HB.out | apply below_alloc | apply pw_below_drewN | apply below_drew1) | exact HB.out)⟩

end Go.Proofs.Yteioboechlnogaa.P
