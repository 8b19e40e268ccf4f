import Derived.Test.YteioboechlnogaaPx14
import Derived.Test.YteioboechlnogaaLG
namespace Go.Proofs.Yteioboechlnogaa.Pure
open Go.RowKit Go.Proofs.Yteioboechlnogaa.P Go.Proofs.YteioboechlnogaaW.PrintWords Go.Proofs.YteioboechlnogaaW.PrintLast

/-- YOURS: ∀ (a0 : Int) (a1 : ByteArray), (Lit.int .i64 a0).wf = true → a1.size ≤ 140737488351232 → ∃ k, intermedelaw12_CodesetTexts.f k a0 a1 = some true
What it reaches (each with k first where it has rounds; `.mono`: more rounds tell the same; `.l0`, ..: its loops, with `.mono_l`): intermedelaw12_long.f, codeset_Convert.f, codeset_is.f, slices_Index_int_int.f, slices_Contains_int_int.f, codeset_Valid.f, codeset_speaks.f, codeset_Choose.f, intermedelaw12_awake.f, intermederef12_is.f, intermederef12_asked.f, intermederef12_Sign.f, intermederef12_at.f, intermederef12_first.f, intermederef12_read.f, intermederef12_Right.f, codeset_Points.f, intermederef12_SameInts.f, codeset_Text.f, codeset_Right.f, intermederef12_Points.f, codeset_Name.f, intermederef12_Name.f, intermedelaw12_CodesetTexts.f -/
theorem CodesetTexts : intermedelaw12_CodesetTexts.Pure := by
  intro a0 a1 _ _
  by_cases hl : (a1.size : Int) > 2000
  · refine ⟨30, ?_⟩
    unfold intermedelaw12_CodesetTexts.f
    rw [long_val a1 (by omega), decide_eq_true hl]
    simp only [Option.bind_some, if_true]
    rw [awake_ge (by omega)]
    rfl
  · have hs : a1.size ≤ 65536 := by omega
    have hk0 : ∀ k, 3 ≤ k → intermedelaw12_long.f k [a1] = some false := fun k hk => by rw [long_val a1 hk, decide_eq_false hl]
    by_cases hn : 1 ≤ a0 ∧ a0 ≤ 5
    · obtain ⟨xs, hR, hx, hP, hRt, _⟩ := points_read hn.1 hn.2 a1 hs
      obtain ⟨k, hk⟩ := same_self (ptsOf xs).1 (by
        rw [pts_val hR]
        have := goodP_length xs
        split
        · simp
        · show (goodP xs).length ≤ 1000000
          omega)
      refine ⟨(k + 3000) + 1, ?_⟩
      have hread := read_val hn.1 hn.2 hs hR hx (k := (k + 3000) + 1) (by omega)
      have hask : intermederef12_asked.f ((k + 3000) + 1) a1 [a0] = some 0 := by rw [asked1 a0 a1 hs (by omega), if_pos hn]
      have hRr : intermederef12_Right.f ((k + 3000) + 1) a0 a1 = some (rightOf xs a1.size) := by
        unfold intermederef12_Right.f
        rw [hask, right_val hR]
        simp only [Option.bind_some, if_true, hread]
        split <;> rfl
      have hPr : intermederef12_Points.f ((k + 3000) + 1) a0 a1 = some (ptsOf xs) := by
        unfold intermederef12_Points.f
        rw [hask, pts_val hR]
        simp only [Option.bind_some, if_true, hread]
        split <;> rfl
      have hm1 : codeset_Name.f a0 = some (nameOf a0) := by
        unfold codeset_Name.f
        rw [if_pos hn]
      have hm2 : intermederef12_Name.f a0 = some (nameOf a0) := by
        rcases five hn.1 hn.2 with rfl | rfl | rfl | rfl | rfl <;> kernel_rfl
      unfold intermedelaw12_CodesetTexts.f
      rw [hk0 _ (by omega), hRt, hRr, hP, hPr, hm1, hm2]
      simp only [Option.bind_some, Bool.false_eq_true, if_false, if_true]
      rw [show k + 3000 + 1 = k + 3001 by omega, hk 3001]
      simp only [Option.bind_some, if_true, bne_self_eq_false]
      rw [show k + 3001 = (k + 3000) + 1 by omega, intermedelaw12_CodesetTexts.j0, if_neg (by decide)]
      rw [awake_ge (show 30 ≤ k + 3000 by omega)]
      simp only [Option.bind_some]
      by_cases he : (ptsOf xs).2 = 0
      · rw [if_pos he]
        rw [pts_val hR] at he ⊢
        by_cases hb : badOf xs ≥ 0
        · rw [if_pos hb] at he
          cases he
        · rw [if_neg hb] at he ⊢
          have hgood : badOf xs = -1 := by
            rcases runs_cases a1 xs 0 hR with ⟨h1, _⟩ | ⟨h1, _⟩
            · exact h1
            · omega
          have hby := runs_bytes a1 xs 0 hR hgood
          have hlen := goodP_length xs
          have hle : ∀ p ∈ goodP xs, p ≤ 9223372036854775807 := by
            intro p hp
            rcases runs_cases a1 xs 0 hR with ⟨_, _, h3⟩ | ⟨h1, _⟩
            · obtain ⟨l, he⟩ := h3 p hp
              have := (encL_bytes he).2.2.2.2
              omega
            · omega
          have hsl : a1.data.toList.length = a1.size := by rw [Array.length_toList]; rfl
          rw [text_eq a0 _ hle]
          unfold textOf
          rw [if_pos hn, if_neg (by show ¬ ((goodP xs).length : Int) > 65536; omega)]
          simp only [hby, List.drop_zero]
          rw [if_neg (by omega)]
          simp
      · rw [if_neg he]
    · have hi : codeset_is.f a0 = some false := by rw [is_val, decide_eq_false hn]
      have ha : codeset_asked.f a0 a1 = some 1 := by
        unfold codeset_asked.f
        rw [hi]
        simp
      have hN : codeset_Name.f a0 = some ⟨#[]⟩ := by
        unfold codeset_Name.f
        rw [if_neg hn]
      have hN2 : intermederef12_Name.f a0 = some ⟨#[]⟩ := by
        unfold intermederef12_Name.f
        (repeat' split) <;> first | rfl | (exfalso; omega)
      have hRt : codeset_Right.f a0 a1 = some (0, 1) := by
        unfold codeset_Right.f
        rw [ha]
        simp
      have hP : codeset_Points.f a0 a1 = some ([], 1) := by
        unfold codeset_Points.f
        rw [ha]
        simp
      obtain ⟨k, hk⟩ := same_self [] (by simp)
      refine ⟨(k + 3000) + 1, ?_⟩
      have hask : intermederef12_asked.f ((k + 3000) + 1) a1 [a0] = some 1 := by rw [asked1 a0 a1 hs (by omega), if_neg hn]
      have hRr : intermederef12_Right.f ((k + 3000) + 1) a0 a1 = some (0, 1) := by
        unfold intermederef12_Right.f
        rw [hask]
        simp
      have hPr : intermederef12_Points.f ((k + 3000) + 1) a0 a1 = some ([], 1) := by
        unfold intermederef12_Points.f
        rw [hask]
        simp
      unfold intermedelaw12_CodesetTexts.f
      rw [hk0 _ (by omega), hRt, hRr, hP, hPr, hN, hN2]
      simp only [Option.bind_some, Bool.false_eq_true, if_false, if_true]
      rw [show k + 3000 + 1 = k + 3001 by omega, hk 3001]
      simp only [Option.bind_some, if_true, bne_self_eq_false]
      rw [show k + 3001 = (k + 3000) + 1 by omega, intermedelaw12_CodesetTexts.j0, if_neg (by decide)]
      rw [awake_ge (show 30 ≤ k + 3000 by omega)]
      simp

end Go.Proofs.Yteioboechlnogaa.Pure
