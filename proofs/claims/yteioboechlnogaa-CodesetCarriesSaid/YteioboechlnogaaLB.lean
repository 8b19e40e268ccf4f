import Derived.Test.YteioboechlnogaaLA
namespace Go.Proofs.Yteioboechlnogaa.P
open Go.Shelf Go.RowKit Go.Proofs.YteioboechlnogaaW.PrintWords Go.Proofs.YteioboechlnogaaW.PrintLast Go.Proofs.YteioboechlnogaaW.PrintMore

set_option maxRecDepth 100000 in
theorem enc_bytes {p : Int} (h : 0 ≤ p) : Utf8.encode p = strOfNums (Lib.encodeRuneZ p) := by
  obtain ⟨x, rfl⟩ := Int.eq_ofNat_of_zero_le h
  rw [← Go.Extern.FmtText.encode_eq]
  unfold strOfNums Go.Extern.FmtText.nums
  have : ((Utf8.encode (x : Int)).data.toList.map fun x => (x.toNat : Int)).map (fun n => UInt8.ofNat n.toNat) = (Utf8.encode (x : Int)).data.toList := by
    rw [List.map_map]
    conv => rhs; rw [← List.map_id (Utf8.encode (x : Int)).data.toList]
    apply List.map_congr_left
    intro a _
    simp
  rw [this]
theorem strOfNums_append (a b : List Int) : strOfNums a ++ strOfNums b = strOfNums (a ++ b) := by
  apply ByteArray.ext
  simp [strOfNums]

set_option maxHeartbeats 4000000 in
theorem wr_ok {n : Int} (h1 : 1 ≤ n) (h5 : n ≤ 5) (p : Int) (h0 : 0 ≤ p) (h9 : p ≤ 9223372036854775807) : IsSign (encL n p) (wrF n p) := by
  unfold wrF
  have hn : ¬ p < 0 := by omega
  rcases five h1 h5 with rfl | rfl | rfl | rfl | rfl
  · simp only [codeset_single_write.f, encL, hn, false_or, if_true, Int.sub_zero]
    (repeat' split) <;> first | (exfalso; omega) | (refine IsSign.none_of ?_; first | rfl | (exact decide_eq_false (by omega)) | (exact decide_eq_false (by unfold wrap64; omega))) | (refine IsSign.some_of ?_ ?_ <;> first | rfl | (exact decide_eq_true (by omega)) | (refine l1_of ?_; ((try simp (disch := omega) only [w64, tdv, tmd]); omega))) | (exfalso; unfold wrap64 at *; omega)
  · simp only [codeset_single_write.f, encL, hn, false_or, if_true, if_false, Int.reduceEq, Int.sub_zero]
    simp (disch := omega) only [w64]
    (repeat' split) <;> first | (exfalso; omega) | (refine IsSign.none_of ?_; first | rfl | (exact decide_eq_false (by omega))) | (refine IsSign.some_of ?_ ?_ <;> first | rfl | (exact decide_eq_true (by omega)) | (refine l1_of ?_; omega))
  · simp only [codeset_eight_write.f, coded_eq, encL, hn, false_or, if_true, if_false, Int.reduceEq, Option.bind_some, decide_eq_true_eq]
    by_cases hb : p ≤ 1114111
    · rw [show wrap32 p = p by unfold wrap32; omega, enc_bytes h0]
      (repeat' split) <;> first | (exfalso; omega) | (refine IsSign.none_of rfl) | (refine IsSign.some_of ?_ rfl; first | exact Lib.encodeRuneZ_one (by omega) (by omega) | exact Lib.encodeRuneZ_two (by omega) (by omega) | exact Lib.encodeRuneZ_three (by omega) | exact Lib.encodeRuneZ_four (by omega) (by omega))
    · rw [if_pos (by omega), if_neg (by omega)]
      exact IsSign.none_of rfl
  · simp only [codeset_sixteen_write.f, codeset_sixteen_write_1.f, coded_eq, encL, hn, false_or, if_true, if_false, Int.reduceEq, Option.bind_some, decide_eq_true_eq]
    by_cases hb : p ≤ 1114111
    · by_cases hs : p < 65536
      · (repeat' split) <;> first | (exfalso; omega) | (refine IsSign.none_of rfl) | (refine IsSign.some_of ?_ rfl; refine l2_of ?_ ?_ <;> omega)
      · rw [if_neg (show ¬ p > 1114111 by omega), if_neg hs, if_neg hs, if_pos (by omega), if_pos (by simp [strOfNums_size]), strOfNums_append]
        refine IsSign.some_of ?_ rfl
        simp (disch := omega) only [w64, and1023]
        refine l4_of ?_ ?_ ?_ ?_ <;> omega
    · rw [if_pos (by omega), if_neg (by omega)]
      exact IsSign.none_of rfl
  · simp only [codeset_single_write.f, encL, hn, false_or, if_false, Int.reduceEq]
    simp (disch := omega) only [w64]
    (repeat' split) <;> first | (exfalso; omega) | (refine IsSign.none_of ?_; first | rfl | (exact decide_eq_false (by omega))) | (refine IsSign.some_of ?_ ?_ <;> first | rfl | (exact decide_eq_true (by omega)) | (refine l1_of ?_; omega))

end Go.Proofs.Yteioboechlnogaa.P
