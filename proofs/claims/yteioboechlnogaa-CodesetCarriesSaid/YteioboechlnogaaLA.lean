import Derived.Stop.FmtQuoteTie
import Derived.Laws.BitsLemmas
import Derived.Test.YteioboechlnogaaGW
/-
  The plain law of the code sets: a point's sign as numbers; the program's write and the reference's Sign are it.
-/
namespace Go.Proofs.Yteioboechlnogaa.P
open Go.Shelf Go.RowKit Go.Proofs.YteioboechlnogaaW.PrintWords Go.Proofs.YteioboechlnogaaW.PrintLast Go.Proofs.YteioboechlnogaaW.PrintMore

/-- The numbers of the bytes of a point's sign in a code set. -/
def encL (n p : Int) : Option (List Int) :=
  if p < 0 ∨ p > 1114111 then none
  else if n = 1 then (if p < 128 then some [p] else none)
  else if n = 2 then (if p < 256 then some [p] else none)
  else if n = 3 then (if 55296 ≤ p ∧ p ≤ 57343 then none else if p < 128 then some [p] else if p < 2048 then some [192 + p / 64, 128 + p % 64] else if p < 65536 then some [224 + p / 4096, 128 + p / 64 % 64, 128 + p % 64] else some [240 + p / 262144, 128 + p / 4096 % 64, 128 + p / 64 % 64, 128 + p % 64])
  else if n = 4 then (if p < 65536 then (if 55296 ≤ p ∧ p ≤ 57343 then none else some [p / 256, p % 256]) else some [(55296 + (p - 65536) / 1024) / 256, (55296 + (p - 65536) / 1024) % 256, (56320 + (p - 65536) % 1024) / 256, (56320 + (p - 65536) % 1024) % 256])
  else (if 900 ≤ p ∧ p ≤ 971 then some [p - 772] else if p < 128 then some [p] else none)

/-- An answer of Sign, or of write, that is the sign. -/
def IsSign (o : Option (List Int)) (r : Option (ByteArray × Bool)) : Prop :=
  match o with
  | some l => r = some (strOfNums l, true)
  | none => ∃ t, r = some (t, false)

theorem IsSign.some_of {l l' : List Int} {b : Bool} (h : l' = l) (hb : b = true) : IsSign (some l) (some (strOfNums l', b)) := by rw [h, hb]; rfl
theorem IsSign.none_of {t : ByteArray} {b : Bool} (hb : b = false) : IsSign none (some (t, b)) := ⟨t, by rw [hb]⟩
theorem w64 {n : Int} (h : -9223372036854775808 ≤ n ∧ n ≤ 9223372036854775807) : wrap64 n = n := by unfold wrap64; omega
theorem tdv {a b : Int} (h : 0 ≤ a) : Int.tdiv a b = a / b := Int.tdiv_eq_ediv_of_nonneg h
theorem tmd {a b : Int} (h : 0 ≤ a) : Int.tmod a b = a % b := Int.tmod_eq_emod_of_nonneg h
theorem l1_of {a a' : Int} (h : a = a') : [a] = [a'] := by rw [h]
theorem l2_of {a b a' b' : Int} (h : a = a') (h2 : b = b') : [a, b] = [a', b'] := by rw [h, h2]
theorem l3_of {a b c a' b' c' : Int} (h : a = a') (h2 : b = b') (h3 : c = c') : [a, b, c] = [a', b', c'] := by rw [h, h2, h3]
theorem l4_of {a b c d a' b' c' d' : Int} (h : a = a') (h2 : b = b') (h3 : c = c') (h4 : d = d') : [a, b, c, d] = [a', b', c', d'] := by rw [h, h2, h3, h4]

set_option maxHeartbeats 4000000 in
theorem sign_ok {n : Int} (h1 : 1 ≤ n) (h5 : n ≤ 5) (p : Int) (k : Nat) : IsSign (encL n p) (intermederef12_Sign.f (k + 2) n p) := by
  unfold intermederef12_Sign.f
  by_cases h0 : p < 0
  · rw [if_pos h0]
    have : encL n p = none := by unfold encL; rw [if_pos (.inl h0)]
    rw [this]
    simp only [intermederef12_Sign.j0, if_true]
    exact IsSign.none_of rfl
  · rw [if_neg h0]
    by_cases hm : p > 1114111
    · have : encL n p = none := by unfold encL; rw [if_pos (.inr hm)]
      rw [this]
      simp only [intermederef12_Sign.j0, hm, decide_true, if_true]
      exact IsSign.none_of rfl
    · rcases five h1 h5 with rfl | rfl | rfl | rfl | rfl
      all_goals
        simp only [intermederef12_Sign.j0, intermederef12_Sign.j1, encL, hm, h0, decide_false, Bool.false_eq_true, if_false, or_self, if_true, Int.reduceEq]
        (repeat' split) <;> first | (exfalso; omega) | (refine IsSign.none_of ?_; first | rfl | (exact decide_eq_false (by omega)) | (simp; omega)) | (refine IsSign.some_of ?_ ?_ <;> first | rfl | (exact decide_eq_true (by omega)) | (simp; omega) | (first | refine l1_of ?_ | refine l2_of ?_ ?_ | refine l3_of ?_ ?_ ?_ | refine l4_of ?_ ?_ ?_ ?_) <;> ((try simp (disch := omega) only [w64, tdv, tmd]); omega)) | (simp_all; done) | (simp_all; exfalso; omega) | skip

/-- The bytes of a text from a place on begin with these numbers. -/
def PreAt (s : ByteArray) : Int → List Int → Prop
  | _, [] => True
  | i, a :: l => i < (s.size : Int) ∧ bt s i = a ∧ PreAt s (i + 1) l
def Pre (l : List Int) (s : ByteArray) : Prop := PreAt s 0 l
theorem bt_out (s : ByteArray) {i : Int} (h : (s.size : Int) ≤ i) : bt s i = 0 := by
  unfold bt
  rw [dif_neg (by omega)]
theorem wbt (s : ByteArray) (i : Int) : wrap64 (bt s i) = bt s i := by
  have := bt_range s i
  exact w64 (by omega)
theorem wraps_i64 (n : Int) (h₀ : 0 ≤ n) (h₁ : n < 2 ^ 62) : IntKind.i64.wrap n = n := by rw [IntKind.wrap_i64]; omega
theorem and192_nat : ∀ x : Nat, x < 256 → (Go.bits .and .u8 (x : Int) 192 = 128 ↔ 128 ≤ x ∧ x < 192) := by decide +kernel
theorem and192 (s : ByteArray) (i : Int) : (Go.bits .and .u8 (bt s i) 192 = 128) = (128 ≤ bt s i ∧ bt s i < 192) := by
  have h := bt_range s i
  obtain ⟨x, hx⟩ := Int.eq_ofNat_of_zero_le h.1
  rw [hx] at h ⊢
  have := and192_nat x (by omega)
  rw [this]
  apply propext
  omega
theorem and63 (s : ByteArray) (i : Int) : Go.bits .and .u8 (bt s i) 63 = bt s i % 64 := by
  have h := bt_range s i
  exact u8_and63 _ h.1 (by omega)
theorem and31 (s : ByteArray) (i : Int) : Go.bits .and .i64 (bt s i) 31 = bt s i % 32 := by
  have h := bt_range s i
  exact bits_mask .i64 62 (by decide) wraps_i64 5 (by decide) _ h.1 (by omega)
theorem and15 (s : ByteArray) (i : Int) : Go.bits .and .i64 (bt s i) 15 = bt s i % 16 := by
  have h := bt_range s i
  exact bits_mask .i64 62 (by decide) wraps_i64 4 (by decide) _ h.1 (by omega)
theorem and7 (s : ByteArray) (i : Int) : Go.bits .and .i64 (bt s i) 7 = bt s i % 8 := by
  have h := bt_range s i
  exact bits_mask .i64 62 (by decide) wraps_i64 3 (by decide) _ h.1 (by omega)
theorem and1023 {x : Int} (h0 : 0 ≤ x) (h1 : x < 2 ^ 62) : Go.bits .and .i64 x 1023 = x % 1024 := bits_mask .i64 62 (by decide) wraps_i64 10 (by decide) _ h0 h1
theorem or6 {x y : Int} (h0 : 0 ≤ x) (h1 : x < 1099511627776) (k0 : 0 ≤ y) (k1 : y < 64) : Go.bits .or .i64 (wrap64 (x * 64)) (wrap64 y) = x * 64 + y := by
  rw [w64 (by omega), w64 (by omega)]
  exact bits_join .i64 62 (by decide) wraps_i64 6 _ _ (by omega) (by omega) (by omega) (by omega) (by omega) (by omega)
theorem or8 (s : ByteArray) (i j : Int) : Go.bits .or .i64 (wrap64 ((bt s i) * 256)) (bt s j) = bt s i * 256 + bt s j := by
  have h := bt_range s i
  have k := bt_range s j
  rw [w64 (by omega)]
  exact bits_join .i64 62 (by decide) wraps_i64 8 _ _ (by omega) (by omega) (by omega) (by omega) (by omega) (by omega)
theorem coded_eq (p : Int) : codeset_coded.f p = some (decide (0 ≤ p ∧ p ≤ 1114111 ∧ ¬(55296 ≤ p ∧ p ≤ 57343))) := by
  unfold codeset_coded.f
  (repeat' split) <;> (congr 1; first | (exact (decide_eq_true (by omega)).symm) | (exact (decide_eq_false (by omega)).symm) | (exact decide_eq_decide.2 (by omega)))

end Go.Proofs.Yteioboechlnogaa.P
