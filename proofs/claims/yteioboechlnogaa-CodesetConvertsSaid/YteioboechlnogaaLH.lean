import Derived.Test.YteioboechlnogaaLG
import Derived.Test.YteioboechlnogaaGC
/-
  Convert: the program's answer is the reference's; what it wrote is read back as the same points.
-/
namespace Go.Proofs.Yteioboechlnogaa.P
open Go.Shelf Go.RowKit Go.Proofs.YteioboechlnogaaW.PrintWords Go.Proofs.YteioboechlnogaaW.PrintLast Go.Proofs.YteioboechlnogaaW.PrintMore

theorem wr_some {b p : Int} (k1 : 1 ≤ b) (k5 : b ≤ 5) {l : List Int} (h : encL b p = some l) : wr b p = (strOfNums l, true) := by
  have hb := encL_bytes h
  have := wr_ok k1 k5 p hb.2.2.2.1 (by omega)
  rw [h] at this
  unfold wr
  rw [show wrF b p = some (strOfNums l, true) from this]
  rfl
theorem wr_none {b p : Int} (k1 : 1 ≤ b) (k5 : b ≤ 5) (h0 : 0 ≤ p) (h9 : p ≤ 1114111) (h : encL b p = none) : (wr b p).2 = false := by
  have := wr_ok k1 k5 p h0 (by omega)
  rw [h] at this
  obtain ⟨t, ht⟩ := this
  unfold wr
  rw [ht]
  rfl
theorem conv_eq {n b : Int} (k1 : 1 ≤ b) (k5 : b ≤ 5) (s : ByteArray) : ∀ (xs : List (Int × Int)) (a : Nat) (acc : List UInt8) (pre : List Int), Runs n s a xs → acc.length + 4 * xs.length ≤ 140737488355328 →
    convR (sgF b) (pre ++ goodA xs) (badOf xs) (goodP xs) pre.length acc = some (convOf (wr b) xs acc)
  | [], a, acc, pre, hR, _ => by
    simp only [goodP, badOf, convR, convOf]
    rw [if_neg (by omega)]
    split <;> rfl
  | x :: xs, a, acc, pre, hR, hl => by
    simp only [List.length_cons] at hl
    obtain ⟨hx1, hlt, hR⟩ := hR
    rcases hR with ⟨hm, rfl, hno⟩ | ⟨l, he, hp, hR⟩
    · have hx : x.2 < 0 := by omega
      simp only [goodP, badOf, convR, convOf, if_pos hx]
      rw [if_pos (by omega)]
    · have hb := encL_bytes he
      have hge : ¬ x.2 < 0 := by omega
      have hs := sgF_ok k1 k5 x.2
      simp only [goodP, goodA, badOf, convR, convOf, if_neg hge]
      cases hc : encL b x.2 with
      | none =>
        rw [hc] at hs
        obtain ⟨t, ht⟩ := hs
        rw [ht, wr_none k1 k5 (by omega) (by omega) hc]
        simp only [Option.bind_some, Bool.false_eq_true, if_false]
        rw [if_pos (by simp)]
        simp [rd]
      | some m =>
        rw [hc] at hs
        have hm := (encL_bytes hc).2.2.1
        rw [show sgF b x.2 = some (strOfNums m, true) from hs, wr_some k1 k5 hc]
        simp only [Option.bind_some, if_true]
        rw [if_pos (by rw [strOfNums_size]; omega), strOfNums_list]
        have ih := conv_eq k1 k5 s xs (a + l.length) (acc ++ byB m) (pre ++ [x.1]) hR (by rw [List.length_append, byB_length]; omega)
        rw [List.append_assoc, List.singleton_append, List.length_append, List.length_singleton] at ih
        exact ih
/-- What is known where Convert succeeds. -/
theorem conv_zero {n b : Int} (k1 : 1 ≤ b) (k5 : b ≤ 5) (s : ByteArray) : ∀ (xs : List (Int × Int)) (a : Nat) (acc : List UInt8), Runs n s a xs → (convOf (wr b) xs acc).2.2 = 0 → ∃ bs, byt b (goodP xs) = some bs ∧ badOf xs = -1 ∧ (acc ++ bs).length ≤ 65536 ∧ convOf (wr b) xs acc = (⟨(acc ++ bs).toArray⟩, 0, 0)
  | [], a, acc, hR, h => by
    refine ⟨[], rfl, rfl, ?_, ?_⟩
    · simp only [convOf] at h
      by_cases hbig : (acc.length : Int) > 65536
      · rw [if_pos hbig] at h; cases h
      · simp; omega
    · simp only [convOf] at h ⊢
      by_cases hbig : (acc.length : Int) > 65536
      · rw [if_pos hbig] at h; cases h
      · rw [if_neg hbig]; simp
  | x :: xs, a, acc, hR, h => by
    obtain ⟨hx1, hlt, hR⟩ := hR
    rcases hR with ⟨hm, rfl, hno⟩ | ⟨l, he, hp, hR⟩
    · have hx : x.2 < 0 := by omega
      simp only [convOf, if_pos hx] at h
      cases h
    · have hb := encL_bytes he
      have hge : ¬ x.2 < 0 := by omega
      simp only [goodP, badOf, convOf, if_neg hge, byt] at h ⊢
      cases hc : encL b x.2 with
      | none =>
        rw [wr_none k1 k5 (by omega) (by omega) hc] at h
        simp at h
      | some m =>
        rw [wr_some k1 k5 hc] at h ⊢
        simp only [if_true, Option.bind_some, strOfNums_list] at h ⊢
        obtain ⟨bs, h1, h2, h3, h4⟩ := conv_zero k1 k5 s xs _ _ hR h
        refine ⟨byB m ++ bs, by rw [h1]; rfl, h2, by rw [← List.append_assoc]; exact h3, by rw [h4, List.append_assoc]⟩
theorem conv_ok {n b : Int} (k1 : 1 ≤ b) (k5 : b ≤ 5) (s : ByteArray) : ∀ (xs : List (Int × Int)) (a : Nat) (acc bs : List UInt8), Runs n s a xs → badOf xs = -1 → byt b (goodP xs) = some bs → (acc ++ bs).length ≤ 65536 → convOf (wr b) xs acc = (⟨(acc ++ bs).toArray⟩, 0, 0)
  | [], a, acc, bs, hR, _, hb, hl => by
    obtain rfl := Option.some.inj hb
    simp only [convOf]
    simp at hl
    rw [if_neg (by omega)]
    simp
  | x :: xs, a, acc, bs, hR, hbad, hb, hl => by
    obtain ⟨hx1, hlt, hR⟩ := hR
    rcases hR with ⟨hm, rfl, hno⟩ | ⟨l, he, hp, hR⟩
    · have hx : x.2 < 0 := by omega
      simp only [badOf, if_pos hx] at hbad
      omega
    · have hbb := encL_bytes he
      have hge : ¬ x.2 < 0 := by omega
      simp only [goodP, badOf, convOf, if_neg hge, byt] at hb hbad ⊢
      obtain ⟨m, hm, hb⟩ := Option.bind_eq_some_iff.mp hb
      obtain ⟨t, ht, rfl⟩ := Option.map_eq_some_iff.mp hb
      rw [wr_some k1 k5 hm]
      simp only [if_true, strOfNums_list]
      rw [conv_ok k1 k5 s xs _ (acc ++ byB m) t hR hbad ht (by rw [List.append_assoc]; exact hl), List.append_assoc]

theorem enc_holds {n b p : Int} (h1 : 1 ≤ n) (h5 : n ≤ 5) (k1 : 1 ≤ b) (k5 : b ≤ 5) (hh : b = n ∨ b = 3 ∨ b = 4 ∨ n = 1) {l : List Int} (h : encL n p = some l) : ∃ m, encL b p = some m := by
  have hb := encL_bytes h
  cases hc : encL b p with
  | some m => exact ⟨m, rfl⟩
  | none =>
    exfalso
    unfold encL at h hc
    have h0 : ¬ (p < 0 ∨ p > 1114111) := by omega
    rw [if_neg h0] at h hc
    rcases five h1 h5 with rfl | rfl | rfl | rfl | rfl <;> rcases five k1 k5 with rfl | rfl | rfl | rfl | rfl <;>
      first
      | omega
      | (simp only [if_true, if_false, Int.reduceEq] at h hc
         (repeat' split at h) <;> (repeat' split at hc) <;> first | (cases h; done) | (cases hc; done) | omega)
theorem byt_some {n b : Int} (h1 : 1 ≤ n) (h5 : n ≤ 5) (k1 : 1 ≤ b) (k5 : b ≤ 5) (hh : b = n ∨ b = 3 ∨ b = 4 ∨ n = 1) : ∀ (ps : List Int), (∀ p ∈ ps, ∃ l, encL n p = some l) → ∃ bs, byt b ps = some bs ∧ bs.length ≤ 4 * ps.length
  | [], _ => ⟨[], rfl, by simp⟩
  | p :: ps, h => by
    obtain ⟨l, hl⟩ := h p (List.mem_cons_self)
    obtain ⟨m, hm⟩ := enc_holds h1 h5 k1 k5 hh hl
    obtain ⟨bs, hb, hlen⟩ := byt_some h1 h5 k1 k5 hh ps (fun q hq => h q (List.mem_cons_of_mem _ hq))
    have := (encL_bytes hm).2.2.1
    refine ⟨byB m ++ bs, by simp [byt, hm, hb], by rw [List.length_append, byB_length, List.length_cons]; omega⟩

/-- Convert, of two code sets and a text that is short enough. -/
theorem convert_val {a b : Int} (h1 : 1 ≤ a) (h5 : a ≤ 5) (k1 : 1 ≤ b) (k5 : b ≤ 5) {s : ByteArray} (hs : s.size ≤ 65536) {xs : List (Int × Int)} (hx : xs.length ≤ s.size) (hq : seqF (nxF 16 a) s (s.size + 1) 0 = some xs) : codeset_Convert.f a b s = some (convOf (wr b) xs []) := by
  unfold codeset_Convert.f
  rw [if_pos ⟨⟨h1, h5⟩, k1, k5⟩, if_neg (by omega), hq]
  simp only [Option.bind_some]
  rw [if_pos (by omega)]
theorem convertR_val {a b : Int} (h1 : 1 ≤ a) (h5 : a ≤ 5) (k1 : 1 ≤ b) (k5 : b ≤ 5) {s : ByteArray} (hs : s.size ≤ 65536) {xs : List (Int × Int)} (hx : xs.length ≤ s.size) (hR : Runs a s 0 xs) : intermederef12_Convert.f a b s = some (convOf (wr b) xs []) := by
  unfold intermederef12_Convert.f
  rw [asked2 a b s hs, if_pos ⟨⟨h1, h5⟩, k1, k5⟩]
  simp only [Option.bind_some, if_true]
  rw [read_val h1 h5 hs hR hx (by omega)]
  simp only [Option.bind_some]
  have := goodP_length xs
  rw [if_pos (by omega)]
  have h := conv_eq k1 k5 s xs 0 [] [] hR (by simp; omega)
  simpa using h
/-- What was converted comes back. -/
theorem convert_back {a b : Int} (h1 : 1 ≤ a) (h5 : a ≤ 5) (k1 : 1 ≤ b) (k5 : b ≤ 5) {s : ByteArray} (hs : s.size ≤ 65536) {xs : List (Int × Int)} (hR : Runs a s 0 xs) (h0 : (convOf (wr b) xs []).2.2 = 0) : codeset_Convert.f b a (convOf (wr b) xs []).1 = some (s, 0, 0) := by
  obtain ⟨bs, hb, hbad, hlen, he⟩ := conv_zero k1 k5 s xs 0 [] hR h0
  rw [he]
  rw [List.nil_append] at hlen ⊢
  have hsz : (⟨bs.toArray⟩ : ByteArray).size = bs.length := by show bs.toArray.size = _; simp
  obtain ⟨ys, hyR, hy, _, _, hyq⟩ := points_read k1 k5 (⟨bs.toArray⟩ : ByteArray) (by omega)
  have hback := runs_back k1 k5 _ (goodP xs) ys 0 (by omega) hyR (by simpa using hb)
  show codeset_Convert.f b a ⟨bs.toArray⟩ = _
  rw [convert_val k1 k5 h1 h5 (by omega) hy hyq]
  have hby := runs_bytes s xs 0 hR hbad
  have hsl : s.data.toList.length = s.size := by rw [Array.length_toList]; rfl
  rw [conv_ok h1 h5 _ ys 0 [] s.data.toList hyR hback.1 (by rw [hback.2.1, hby]; simp) (by simp; omega)]
  simp

end Go.Proofs.Yteioboechlnogaa.P
