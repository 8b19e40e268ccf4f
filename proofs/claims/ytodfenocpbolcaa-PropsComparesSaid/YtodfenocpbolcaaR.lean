/- It is proved that the evaluation of PropsCompares answers true at any two properties. No condition. -/
import Derived.Test.YtodfenocpbolcaaP
import Derived.Test.YtodfenocpbolcaaAw
set_option maxRecDepth 100000
namespace Go.Proofs.Ytodfenocpbolcaa.E
open Go
def sm (a0 a3 : ByteArray) (L : List Int) : Bool := !(decide ((a0.size : Int) > 60) || (decide ((a3.size : Int) > 1010) || decide ((L.length : Int) > 110)))
theorem small_step (m m2 : Bool) {es : List V} {i : Nat} {a0 : ByteArray} {a1 a2 : Int} {a3 : ByteArray} {mm : Bool} {L : List Int} (h : es[i]? = some (propV a0 a1 a2 a3 mm L)) (hi : i < es.length) (hl : es.length < 1000) {r : Bool}
    (hr : law30_small.L0 XC m es m2 es es.length ((i + 1 : Nat) : Int) = some (.ret [.bool r] [])) : law30_small.L0 XC m es m2 es es.length i = some (.ret [.bool (sm a0 a3 L && r)] []) := by
  have J1 : ∀ b, law30_small.J1 XC m es m2 es es.length i b = some (.ret [.bool (!b && r)] []) := by
    intro b
    apply law30_small.J1_of
    unfold law30_small.J1T
    cases b with
    | true => rfl
    | false => rw [wrap1 (show i < 9223372036854775807 by omega)]; exact hr
  apply law30_small.L0_of
  unfold law30_small.L0T
  have hx : ∀ K : V → R, idxK es (i : Int) K = K (propV a0 a1 a2 a3 mm L) := by
    intro K
    unfold idxK
    rw [if_pos (by omega), show ((i : Int)).toNat = i from rfl, h]
  rw [show decide ((i : Int) < es.length) = true by simp; omega, cond_true, hx]
  simp only [V.cells, asCons, asInt, asStr, asNil, if_true, len_ints, asList, J1, sm, cond_ret]
  refine ret_eq ?_
  cases decide ((a0.size : Int) > 60) <;> cases decide ((a3.size : Int) > 1010) <;> rfl
theorem small_is (a0 : ByteArray) (a1 a2 : Int) (a3 : ByteArray) (m : Bool) (L : List Int) (b0 : ByteArray) (b1 b2 : Int) (b3 : ByteArray) (m' : Bool) (M : List Int) :
    RUN 4 [.list true 5 [propV a0 a1 a2 a3 m L, propV b0 b1 b2 b3 m' M]] [] = some (.ret [.bool (sm a0 a3 L && (sm b0 b3 M && true))] []) := by
  apply law30_small_of
  unfold law30_small
  refine small_step true true (es := [propV a0 a1 a2 a3 m L, propV b0 b1 b2 b3 m' M]) (i := 0) rfl (by simp) (by simp) ?_
  refine small_step true true (es := [propV a0 a1 a2 a3 m L, propV b0 b1 b2 b3 m' M]) (i := 1) rfl (by simp) (by simp) ?_
  exact law30_small.L0_of _ _ _ _ _ _ _ rfl
theorem law_is (a0 : ByteArray) (a1 a2 : Int) (a3 : ByteArray) (m : Bool) (L : List Int) (b0 : ByteArray) (b1 b2 : Int) (b3 : ByteArray) (m' : Bool) (M : List Int) :
    RUN 3 [propV a0 a1 a2 a3 m L, propV b0 b1 b2 b3 m' M] [] = some (.ret [.bool true] []) := by
  obtain ⟨sa, aw⟩ := awake_run
  have na : noObjs [propV a0 a1 a2 a3 m L] = true := noObj_prop ..
  have nb : noObjs [propV b0 b1 b2 b3 m' M] = true := noObj_prop ..
  have J0 : ∀ b, law30_PropsCompares.J0 XC b = some (.ret [.bool b] []) := fun b => law30_PropsCompares.J0_of b _ rfl
  apply law30_PropsCompares_of
  unfold law30_PropsCompares
  rw [show noObjs [V.list true 5 [propV a0 a1 a2 a3 m L, propV b0 b1 b2 b3 m' M]] = true by simp [noObjs, noObj, noObjs_ints], ck_t, callP1_is (small_is ..) rfl]
  simp only [asBool]
  cases hs : (sm a0 a3 L && (sm b0 b3 M && true)) with
  | false =>
    simp only [Bool.not_false, cond_true]
    rw [callP1_is aw rfl]
    rfl
  | true =>
    have hsa : sm a0 a3 L = true := by simp at hs; exact hs.1
    have hsb : sm b0 b3 M = true := by simp at hs; exact hs.2
    unfold sm at hsa hsb
    simp only [Bool.not_eq_true', Bool.or_eq_false_iff, decide_eq_false_iff_not] at hsa hsb
    have ha0 : a0.size < 1000 := by omega
    have hb0 : b0.size < 1000 := by omega
    have hL : L.length < 1000 := by omega
    have hM : M.length < 1000 := by omega
    simp only [Bool.not_true, cond_false]
    rw [na, ck_t, callP1_is (valid_is a1 a2 a3 m ha0 hL) rfl]
    simp only [ck_t]
    rw [callP1_is (refvalid_is a1 a2 a3 m ha0 hL) rfl]
    simp only
    rw [valid_same, show ∀ b : Bool, (b == b) = true from fun b => by cases b <;> rfl, cond_true, callP1_is (refvalid_is a1 a2 a3 m ha0 hL) rfl]
    simp only
    cases va : (!L.any farB && refTail a0 a1 a2 a3 L) with
    | false =>
      simp only [Bool.not_false, cond_true]
      rw [callP1_is aw rfl]
      exact J0 true
    | true =>
      simp only [Bool.not_true, cond_false]
      rw [nb, ck_t, callP1_is (refvalid_is b1 b2 b3 m' hb0 hM) rfl]
      simp only
      cases vb : (!M.any farB && refTail b0 b1 b2 b3 M) with
      | false =>
        simp only [Bool.not_false, cond_true]
        rw [callP1_is aw rfl]
        exact J0 true
      | true =>
        have wa : validV a1 a2 a3 L = true := by
          have := (valid_same a0 a1 a2 a3 L).trans va
          simp only [Bool.and_eq_true] at this
          exact this.2
        have wb : validV b1 b2 b3 M = true := by
          have := (valid_same b0 b1 b2 b3 M).trans vb
          simp only [Bool.and_eq_true] at this
          exact this.2
        have nab : noObjs [propV a0 a1 a2 a3 m L, propV b0 b1 b2 b3 m' M] = true := by simp [noObjs, noObj, noObjs_ints]
        simp only [Bool.not_true, cond_false]
        rw [nab, ck_t, callP1_is (compare_is m m' hL hM wa wb) rfl]
        simp only [asInt, if_true, ck_t]
        rw [callP1_is (refcompare_is a0 a1 a2 a3 m b0 b1 b2 b3 m' hL hM) rfl]
        simp only [if_true, beq_self_eq_true, cond_true]
        rw [callP1_is aw rfl]
        exact J0 true
end Go.Proofs.Ytodfenocpbolcaa.E
