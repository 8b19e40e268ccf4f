import Derived.Test.YteioboechlnogaaPx8
import Derived.Test.YteioboechlnogaaLH
namespace Go.Proofs.Yteioboechlnogaa.Pure
open Go.RowKit Go.Proofs.Yteioboechlnogaa.P Go.Proofs.YteioboechlnogaaW.PrintWords Go.Proofs.YteioboechlnogaaW.PrintLast

def holdsOf (x y : Int) : Bool × Int := if 1 ≤ x ∧ x ≤ 5 then (if 1 ≤ y ∧ y ≤ 5 then (if x = y then (true, 0) else if x = 3 then (true, 0) else if x = 4 then (true, 0) else ((y == 1), 0)) else (false, 1)) else (false, 1)
theorem holds_val (x y : Int) : codeset_Holds.f x y = some (holdsOf x y) := by
  unfold codeset_Holds.f holdsOf
  simp only [is_val, Option.bind_some, decide_eq_true_eq]
  (repeat' split) <;> rfl
theorem holds_ref (x y : Int) : intermederef12_Holds.f x y = some (holdsOf x y) := by
  unfold intermederef12_Holds.f holdsOf
  simp only [ris_val, Option.bind_some, decide_eq_true_eq]
  (repeat' split) <;> rfl
theorem right_ref (n : Int) (s : ByteArray) (hs : s.size ≤ 65536) {k : Nat} (hk : s.size + 6 ≤ k) : ∃ r, intermederef12_Right.f k n s = some r ∧ (r.2 = 0 → (1 ≤ n ∧ n ≤ 5) ∧ ∀ xs, Runs n s 0 xs → xs.length ≤ s.size → badOf xs = -1) := by
  by_cases hn : 1 ≤ n ∧ n ≤ 5
  · obtain ⟨xs, hR, hx, _, _, _⟩ := points_read hn.1 hn.2 s hs
    have hread := read_val hn.1 hn.2 hs hR hx hk
    unfold intermederef12_Right.f
    rw [asked1 n s hs (by omega), if_pos hn]
    simp only [Option.bind_some, if_true, hread]
    by_cases hb : badOf xs ≥ 0
    · rw [if_pos hb]
      exact ⟨_, rfl, fun h => by cases h⟩
    · rw [if_neg hb]
      refine ⟨_, rfl, fun _ => ⟨hn, fun ys hyR hy => ?_⟩⟩
      have h2 := read_val hn.1 hn.2 hs hyR hy hk
      rw [hread] at h2
      have e := congrArg (fun r => r.2.2) (Option.some.inj h2)
      simp only at e
      rcases runs_cases s ys 0 hyR with ⟨h1, _⟩ | ⟨h1, _⟩
      · exact h1
      · omega
  · unfold intermederef12_Right.f
    rw [asked1 n s hs (by omega), if_neg hn]
    exact ⟨(0, 1), rfl, fun h => by cases h⟩

/-- YOURS: ∀ (a0 : Int) (a1 : Int) (a2 : ByteArray), (Lit.int .i64 a0).wf = true → (Lit.int .i64 a1).wf = true → a2.size ≤ 140737488351232 → ∃ k, intermedelaw12_CodesetConverts.f k a0 a1 a2 = some true
What it reaches (each with k first where it has rounds; `.mono`: more rounds tell the same; `.l0`, ..: its loops, with `.mono_l`): intermedelaw12_long.f, codeset_Convert.f, codeset_is.f, slices_Index_int_int.f, slices_Contains_int_int.f, codeset_Valid.f, codeset_speaks.f, codeset_Choose.f, intermedelaw12_awake.f, intermederef12_Convert.f, codeset_Holds.f, intermederef12_is.f, intermederef12_Holds.f, intermederef12_asked.f, intermederef12_Sign.f, intermederef12_at.f, intermederef12_first.f, intermederef12_read.f, intermederef12_Right.f, intermedelaw12_CodesetConverts.f -/
theorem CodesetConverts : intermedelaw12_CodesetConverts.Pure := by
  intro a0 a1 a2 _ _ _
  by_cases hl : (a2.size : Int) > 2000
  · refine ⟨30, ?_⟩
    unfold intermedelaw12_CodesetConverts.f
    rw [long_val a2 (by omega), decide_eq_true hl]
    simp only [Option.bind_some, if_true]
    rw [awake_ge (by omega)]
    rfl
  · have hs : a2.size ≤ 65536 := by omega
    refine ⟨3000 + 1 + 1, ?_⟩
    have hlong : intermedelaw12_long.f (3000 + 1 + 1) [a2] = some false := by rw [long_val a2 (by omega), decide_eq_false hl]
    have haw1 : intermedelaw12_awake.f (3000 + 1) = some true := awake_ge (by omega)
    have haw0 : intermedelaw12_awake.f 3000 = some true := awake_ge (by omega)
    obtain ⟨r1, hr1, hr1'⟩ := right_ref a0 a2 hs (k := 3000 + 1) (by omega)
    obtain ⟨r0, hr0, hr0'⟩ := right_ref a0 a2 hs (k := 3000) (by omega)
    by_cases hv : (1 ≤ a0 ∧ a0 ≤ 5) ∧ (1 ≤ a1 ∧ a1 ≤ 5)
    · obtain ⟨⟨h1, h5⟩, k1, k5⟩ := hv
      obtain ⟨xs, hR, hx, _, _, hq⟩ := points_read h1 h5 a2 hs
      unfold intermedelaw12_CodesetConverts.f
      rw [hlong, convert_val h1 h5 k1 k5 hs hx hq, convertR_val h1 h5 k1 k5 hs hx hR, holds_val, holds_ref]
      simp only [Option.bind_some, Bool.false_eq_true, if_false, if_true, bne_self_eq_false]
      rw [intermedelaw12_CodesetConverts.j0, if_neg (by decide)]
      by_cases he : (convOf (wr a1) xs []).2.2 = 0
      · rw [if_pos he, convert_back h1 h5 k1 k5 hs hR he]
        simp only [Option.bind_some, if_true, bne_self_eq_false]
        rw [intermedelaw12_CodesetConverts.j1, if_neg (by decide), hr0, haw0]
        simp only [Option.bind_some, if_pos he]
        (repeat' split) <;> rfl
      · rw [if_neg he, hr1, haw1]
        simp only [Option.bind_some]
        split
        · next hh =>
          split
          · next h0 =>
            exfalso
            have hbad := (hr1' h0).2 xs hR hx
            have hall : ∀ p ∈ goodP xs, ∃ l, encL a0 p = some l := by
              rcases runs_cases a2 xs 0 hR with ⟨_, _, h3⟩ | ⟨h4, _⟩
              · exact h3
              · omega
            have hcond : a1 = a0 ∨ a1 = 3 ∨ a1 = 4 ∨ a0 = 1 := by
              unfold holdsOf at hh
              rw [if_pos ⟨k1, k5⟩, if_pos ⟨h1, h5⟩] at hh
              by_cases e1 : a1 = a0
              · exact .inl e1
              · by_cases e3 : a1 = 3
                · exact .inr (.inl e3)
                · by_cases e4 : a1 = 4
                  · exact .inr (.inr (.inl e4))
                  · rw [if_neg e1, if_neg e3, if_neg e4] at hh
                    exact .inr (.inr (.inr (by simpa using hh)))
            obtain ⟨bs, hb, hlen⟩ := byt_some h1 h5 k1 k5 hcond (goodP xs) hall
            have hg := goodP_length xs
            have := conv_ok k1 k5 a2 xs 0 [] bs hR hbad hb (by simp; omega)
            rw [this] at he
            exact he rfl
          · rfl
        · rfl
    · have hc : codeset_Convert.f a0 a1 a2 = some (⟨#[]⟩, 0, 1) := by
        unfold codeset_Convert.f
        rw [if_neg hv]
      have hcr : intermederef12_Convert.f a0 a1 a2 = some (⟨#[]⟩, 0, 1) := by
        unfold intermederef12_Convert.f
        rw [asked2 a0 a1 a2 hs, if_neg hv]
        rfl
      have hh : (holdsOf a1 a0).1 = false := by
        unfold holdsOf
        by_cases hb : 1 ≤ a1 ∧ a1 ≤ 5
        · rw [if_pos hb, if_neg (fun ha => hv ⟨ha, hb⟩)]
        · rw [if_neg hb]
      unfold intermedelaw12_CodesetConverts.f
      rw [hlong, hc, hcr, holds_val, holds_ref]
      simp only [Option.bind_some, Bool.false_eq_true, if_false, if_true, bne_self_eq_false]
      rw [intermedelaw12_CodesetConverts.j0, if_neg (by decide), if_neg (by decide), hr1, haw1, hh]
      rfl

end Go.Proofs.Yteioboechlnogaa.Pure
