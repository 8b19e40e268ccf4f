import Derived.Test.YteioboechlnogaaPx12
import Derived.Test.YteioboechlnogaaLG
namespace Go.Proofs.Yteioboechlnogaa.Pure
open Go.RowKit Go.Proofs.Yteioboechlnogaa.P Go.Proofs.YteioboechlnogaaW.PrintWords Go.Proofs.YteioboechlnogaaW.PrintLast

/-- YOURS: ∀ (a0 : Int) (l1 : List Int), (Lit.int .i64 a0).wf = true → l1.length ≤ maxLen → l1.length * 8 ≤ 140737488351232 → (∀ x ∈ l1, (Lit.int .i64 x).wf = true) → ∃ k, intermedelaw12_CodesetPoints.f k a0 l1 = some true
What it reaches (each with k first where it has rounds; `.mono`: more rounds tell the same; `.l0`, ..: its loops, with `.mono_l`): codeset_Convert.f, codeset_is.f, slices_Index_int_int.f, slices_Contains_int_int.f, codeset_Valid.f, codeset_speaks.f, codeset_Choose.f, intermedelaw12_awake.f, codeset_Points.f, intermederef12_SameInts.f, codeset_Text.f, intermederef12_Text.f, intermedelaw12_CodesetPoints.f -/
theorem CodesetPoints : intermedelaw12_CodesetPoints.Pure := by
  intro a0 l1 _ _ _ hwf
  by_cases hl : (l1.length : Int) > 2000
  · refine ⟨30, ?_⟩
    unfold intermedelaw12_CodesetPoints.f
    rw [if_pos hl, awake_ge (by omega)]
    rfl
  · have hw : ∀ p ∈ l1, p ≤ 9223372036854775807 := by
      intro p hp
      have := hwf p hp
      simp only [Lit.wf, IntKind.min, IntKind.max, IntKind.signed, IntKind.bits, Bool.and_eq_true, decide_eq_true_eq, if_true] at this
      omega
    obtain ⟨k, hk⟩ := same_self l1 (by omega)
    refine ⟨(k + 30) + 1, ?_⟩
    unfold intermedelaw12_CodesetPoints.f
    rw [if_neg hl, text_eq a0 l1 hw, textR_of a0 l1]
    simp only [Option.bind_some, if_true, bne_self_eq_false, intermedelaw12_CodesetPoints.j0, Bool.false_eq_true, if_false]
    rw [awake_ge (show 30 ≤ k + 30 by omega)]
    by_cases he : (textOf a0 l1).2 = 0
    · rw [if_pos he]
      unfold textOf at he ⊢
      by_cases hn : 1 ≤ a0 ∧ a0 ≤ 5
      · rw [if_pos hn, if_neg (by omega)] at he ⊢
        cases hb : byt a0 l1 with
        | none => rw [hb] at he; cases he
        | some bs =>
          rw [hb] at he
          simp only at he ⊢
          by_cases hbig : (bs.length : Int) > 65536
          · rw [if_pos hbig] at he
            cases he
          · rw [if_neg hbig]
            obtain ⟨xs, hR, hx, hP, _, _⟩ := points_read hn.1 hn.2 (⟨bs.toArray⟩ : ByteArray) (by show bs.toArray.size ≤ 65536; simp; omega)
            have hback := runs_back hn.1 hn.2 _ l1 xs 0 (by omega) hR (by simpa using hb)
            rw [hP, pts_val hR, if_neg (by omega), hback.2.1]
            simp only [Option.bind_some, if_true]
            rw [hk 30]
            rfl
      · rw [if_neg hn] at he
        cases he
    · rw [if_neg he]
      rfl

end Go.Proofs.Yteioboechlnogaa.Pure
