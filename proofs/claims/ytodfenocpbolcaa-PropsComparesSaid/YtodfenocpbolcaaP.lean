/- It is proved of the functions that PropsCompares calls what they answer at properties of any texts, numbers and lists of numbers. No condition beyond the lemmas' own. -/
import Derived.Test.YtodfenocpbolcaaLF
import Derived.IntWalk
import Derived.KernelRfl
set_option maxRecDepth 100000
namespace Go.Proofs.Ytodfenocpbolcaa.E
open Go
theorem byteK_at {s : ByteArray} {i : Nat} {c : UInt8} (h : s[i]? = some c) (K : Int → R) : byteK s (i : Int) K = K c.toNat := by
  unfold byteK
  rw [if_pos (by omega), show ((i : Int)).toNat = i from rfl, h]
theorem wrap1 {i : Nat} (h : i < 9223372036854775807) : IntKind.i64.wrap ((i : Int) + 1) = ((i + 1 : Nat) : Int) := by
  rw [IntWalk.i64_in _ (by omega)]; omega
def okB (z : Bool) (c : Int) : Bool := (decide (97 ≤ c ∧ c ≤ 122) || decide (65 ≤ c ∧ c ≤ 90)) || (!z && (decide (48 ≤ c ∧ c ≤ 57) || decide (c = 95)))
def nmFrom (s : ByteArray) : Nat → Nat → Bool
  | 0, _ => !(s.toList == (⟨#[]⟩ : ByteArray).toList) && decide ((s.size : Int) ≤ 32)
  | k + 1, i => (match s[i]? with | some c => okB ((i : Int) == 0) c.toNat | none => false) && nmFrom s k (i + 1)
theorem getAt {s : ByteArray} {i : Nat} (h : i < s.size) : ∃ c, s[i]? = some c := ⟨s[i], by simp [h]⟩
theorem cond_ret {b x y : Bool} {s : List O} : (bif b then (some (.ret [.bool x] s) : R) else some (.ret [.bool y] s)) = some (.ret [.bool (bif b then x else y)] s) := by cases b <;> rfl
theorem ret_eq {x y : Bool} {s : List O} (h : x = y) : (some (.ret [.bool x] s) : R) = some (.ret [.bool y] s) := by rw [h]
theorem condD {p : Prop} [Decidable p] {x y : Bool} : ((bif decide p then x else y) = true) ↔ (p ∧ x = true) ∨ (¬p ∧ y = true) := by
  by_cases h : p <;> simp [h]
theorem condN {a b : Int} {x y : Bool} : ((bif a != b then x else y) = true) ↔ (a ≠ b ∧ x = true) ∨ (a = b ∧ y = true) := by
  by_cases h : a = b <;> simp [h]
theorem named_loop {s : ByteArray} (hs : s.size < 1000) : ∀ (k i : Nat), i + k = s.size → props_named.L0 XC s s.size i = some (.ret [.bool (nmFrom s k i)] [])
  | 0, i, h => by
    obtain rfl : i = s.size := by omega
    apply props_named.L0_of
    unfold props_named.L0T
    rw [show decide ((s.size : Int) < s.size) = false by simp]
    have J2 : ∀ b, props_named.J2 XC b = some (.ret [.bool b] []) := fun b => props_named.J2_of b _ rfl
    simp only [cond_false, J2, nmFrom]
    cases (s.toList == (⟨#[]⟩ : ByteArray).toList) <;> rfl
  | k + 1, i, h => by
    have ih := named_loop hs k (i + 1) (by omega)
    obtain ⟨c, hc⟩ := getAt (s := s) (i := i) (by omega)
    have J1 : ∀ b, props_named.J1 XC s s.size i b = some (.ret [.bool (!b && nmFrom s k (i + 1))] []) := by
      intro b
      apply props_named.J1_of
      unfold props_named.J1T
      cases b with
      | true => rfl
      | false => rw [wrap1 (by omega)]; exact ih
    apply props_named.L0_of
    unfold props_named.L0T
    rw [show decide ((i : Int) < s.size) = true by simp; omega]
    simp only [cond_true, byteK_at hc, J1, nmFrom, hc]
    generalize nmFrom s k (i + 1) = t
    generalize ((c.toNat : Nat) : Int) = c
    unfold okB
    generalize ((i : Int) == 0) = z
    simp only [cond_ret]
    refine ret_eq ?_
    rw [Bool.eq_iff_iff]
    cases z <;> cases t <;> ((try simp only [condD, cond_true, cond_false, Bool.not_true, Bool.not_false, Bool.and_true, Bool.and_false, Bool.true_and, Bool.false_and, Bool.or_false, Bool.or_eq_true, decide_eq_true_eq, ne_eq, Bool.false_eq_true, and_false, and_true, or_self, Bool.not_eq_true', decide_eq_false_iff_not, condN, false_or]); try omega)
theorem named_is {s : ByteArray} (hs : s.size < 1000) : RUN 13 [.str s] [] = some (.ret [.bool (nmFrom s s.size 0)] []) := by
  apply props_named_of
  unfold props_named
  exact named_loop hs s.size 0 (by omega)
theorem name_loop {s : ByteArray} (hs : s.size < 1000) : ∀ (k i : Nat), i + k = s.size → ref30_Name.L0 XC s s.size i = some (.ret [.bool (nmFrom s k i)] [])
  | 0, i, h => by
    obtain rfl : i = s.size := by omega
    apply ref30_Name.L0_of
    unfold ref30_Name.L0T
    rw [show decide ((s.size : Int) < s.size) = false by simp]
    have J3 : ∀ b, ref30_Name.J3 XC b = some (.ret [.bool b] []) := fun b => ref30_Name.J3_of b _ rfl
    simp only [cond_false, J3, nmFrom]
    cases (s.toList == (⟨#[]⟩ : ByteArray).toList) <;> rfl
  | k + 1, i, h => by
    have ih := name_loop hs k (i + 1) (by omega)
    obtain ⟨c, hc⟩ := getAt (s := s) (i := i) (by omega)
    have J2 : ∀ b, ref30_Name.J2 XC s s.size i b = some (.ret [.bool (!b && nmFrom s k (i + 1))] []) := by
      intro b
      apply ref30_Name.J2_of
      unfold ref30_Name.J2T
      cases b with
      | true => rfl
      | false => rw [wrap1 (by omega)]; exact ih
    have J1 : ∀ b, ref30_Name.J1 XC s i b s.size i = some (.ret [.bool ((b || (!((i : Int) == 0) && (decide (48 ≤ (c.toNat : Int) ∧ (c.toNat : Int) ≤ 57) || decide ((c.toNat : Int) = 95)))) && nmFrom s k (i + 1))] []) := by
      intro b
      apply ref30_Name.J1_of
      unfold ref30_Name.J1T
      simp only [byteK_at hc, J2]
      generalize nmFrom s k (i + 1) = t
      generalize ((c.toNat : Nat) : Int) = c
      generalize ((i : Int) == 0) = z
      simp only [cond_ret]
      refine ret_eq ?_
      rw [Bool.eq_iff_iff]
      cases b <;> cases z <;> cases t <;> ((try simp only [condD, cond_true, cond_false, Bool.not_true, Bool.not_false, Bool.and_true, Bool.and_false, Bool.true_and, Bool.false_and, Bool.or_false, Bool.false_or, Bool.or_eq_true, decide_eq_true_eq, Bool.false_eq_true, and_false, and_true, or_self, Bool.not_eq_true', true_or, bne_eq_false_iff_eq]); try omega)
    apply ref30_Name.L0_of
    unfold ref30_Name.L0T
    rw [show decide ((i : Int) < s.size) = true by simp; omega]
    simp only [cond_true, byteK_at hc, J1, nmFrom, hc]
    generalize nmFrom s k (i + 1) = t
    generalize ((c.toNat : Nat) : Int) = c
    unfold okB
    generalize ((i : Int) == 0) = z
    simp only [cond_ret]
    refine ret_eq ?_
    rw [Bool.eq_iff_iff]
    cases z <;> cases t <;> ((try simp only [condD, Bool.not_true, Bool.not_false, Bool.and_true, Bool.and_false, Bool.true_and, Bool.false_and, Bool.or_false, Bool.false_or, Bool.or_eq_true, decide_eq_true_eq, Bool.false_eq_true, and_false, or_false, and_true, or_self, true_or]); try omega)
theorem name_is {s : ByteArray} (hs : s.size < 1000) : RUN 15 [.str s] [] = some (.ret [.bool (nmFrom s s.size 0)] []) := by
  apply ref30_Name_of
  unfold ref30_Name
  exact name_loop hs s.size 0 (by omega)
theorem far_is (n : Int) : RUN 14 [.int .i64 n] [] = some (.ret [.bool (decide (n < -1000000000000000 ∨ n > 1000000000000000))] []) := by
  apply ref30_far_of
  unfold ref30_far
  have J0 : ∀ b, ref30_far.J0 XC b = some (.ret [.bool b] []) := fun b => ref30_far.J0_of b _ rfl
  simp only [J0, cond_ret]
  refine ret_eq ?_
  rw [Bool.eq_iff_iff]
  ((try simp only [condD, decide_eq_true_eq, and_true]); try omega)
end Go.Proofs.Ytodfenocpbolcaa.E
set_option maxRecDepth 100000
namespace Go.Proofs.Ytodfenocpbolcaa.E
open Go
def ints (L : List Int) : List V := L.map fun n => .int .i64 n
def farB (n : Int) : Bool := decide (n < -1000000000000000 ∨ n > 1000000000000000)
theorem idx_ints {L : List Int} {i : Nat} {x : Int} (h : L[i]? = some x) (K : V → R) : idxK (ints L) (i : Int) K = K (.int .i64 x) := by
  unfold idxK ints
  rw [if_pos (by omega), show ((i : Int)).toNat = i from rfl, List.getElem?_map, h]
  rfl
theorem len_ints (L : List Int) : (ints L).length = L.length := by simp [ints]
theorem noObjs_ints (L : List Int) : noObjs (ints L) = true := by
  induction L with
  | nil => rfl
  | cons a l ih => simp only [ints, List.map_cons] at ih ⊢; simp only [noObjs, noObj, ih, Bool.and_self]
theorem callP1_is {x : R} {v : V} {s : List O} (h : x = some (.ret [v] s)) (hv : noObj v = true) (K KP : V → R) : callP1 x K KP = K v := by
  rw [h]
  show ck (noObjs [v]) _ = _
  rw [show noObjs [v] = true by simp [noObjs, hv]]
  rfl
theorem callS1_is {x : R} {v : V} {s : List O} (h : x = some (.ret [v] s)) (K KP : V → List O → R) : callS1 x K KP = K v s := by
  rw [h]
  rfl
theorem far_is' (n : Int) : RUN 14 [.int .i64 n] [] = some (.ret [.bool (farB n)] []) := far_is n
theorem whole_valid_is (n : Int) : RUN 63 [.int .i64 n] [] = some (.ret [.bool (!farB n)] []) := by
  apply props_whole_valid_of
  unfold props_whole_valid
  have J0 : ∀ b, props_whole_valid.J0 XC b = some (.ret [.bool b] []) := fun b => props_whole_valid.J0_of b _ rfl
  simp only [J0, cond_ret]
  refine ret_eq ?_
  unfold farB
  rw [Bool.eq_iff_iff]
  ((try simp only [condD, decide_eq_true_eq, Bool.false_eq_true, and_false, or_false, Bool.not_eq_true', decide_eq_false_iff_not]); try omega)
theorem valid_1_is (n : Int) : RUN 80 [.int .i64 n] [] = some (.ret [.bool (farB n)] []) := by
  apply props_many_valid_1_of
  unfold props_many_valid_1
  rw [callP1_is (whole_valid_is n) rfl]
  show some (Out.ret [V.bool (!!farB n)] []) = _
  rw [Bool.not_not]
theorem callF80 (n : Int) (s : List O) (K KP : V → List O → R) : CALLF (.func (.func 80) [] []) [.int .i64 n] s K KP = K (.bool (farB n)) s :=
  (show CALLF (.func (.func 80) [] []) [.int .i64 n] s K KP = callP1 (RUN 80 [.int .i64 n] []) (fun v => K v s) (fun p => KP p s) by kernel_rfl).trans (callP1_is (valid_1_is n) rfl _ _)
theorem index_loop {m : Bool} {L : List Int} (hl : L.length < 1000) (s : List O) : ∀ (k i : Nat), i + k = L.length → ∃ r : Int, slices_IndexFunc_props_many_int.L0 XC m (ints L) (.func (.func 80) [] []) L.length i s = some (.ret [.int .i64 r] s) ∧ (0 ≤ r ↔ (L.drop i).any farB = true)
  | 0, i, h => by
    refine ⟨-1, ?_, ?_⟩
    · apply slices_IndexFunc_props_many_int.L0_of
      unfold slices_IndexFunc_props_many_int.L0T
      rw [show decide ((i : Int) < L.length) = false by simp; omega]
      rfl
    · rw [List.drop_of_length_le (by omega)]; simp
  | k + 1, i, h => by
    have hi : i < L.length := by omega
    obtain ⟨r, h1, h2⟩ := index_loop (m := m) hl s k (i + 1) (by omega)
    have hd : (L.drop i).any farB = (farB L[i] || (L.drop (i + 1)).any farB) := by rw [List.drop_eq_getElem_cons hi, List.any_cons]
    have step : ∀ o, (bif farB L[i] then some (.ret [.int .i64 (i : Int)] s) else slices_IndexFunc_props_many_int.L0 XC m (ints L) (.func (.func 80) [] []) L.length ((i + 1 : Nat) : Int) s) = some o → slices_IndexFunc_props_many_int.L0 XC m (ints L) (.func (.func 80) [] []) L.length i s = some o := by
      intro o ho
      apply slices_IndexFunc_props_many_int.L0_of
      unfold slices_IndexFunc_props_many_int.L0T
      rw [show decide ((i : Int) < L.length) = true by simp; omega, cond_true, idx_ints (List.getElem?_eq_getElem hi)]
      simp only [V.cells, asCons, asInt, asNil, if_true, callF80, asBool, wrap1 (show i < 9223372036854775807 by omega)]
      exact ho
    cases hf : farB L[i] with
    | true =>
      refine ⟨i, step _ (by rw [hf]; rfl), ?_⟩
      rw [hd, hf]; simp
    | false =>
      refine ⟨r, step _ (by rw [hf]; exact h1), ?_⟩
      rw [hd, hf, Bool.false_or]; exact h2
theorem index_is {m : Bool} {L : List Int} (hl : L.length < 1000) (s : List O) : ∃ r : Int, RUN 81 [.list m 1 (ints L), .func (.func 80) [] []] s = some (.ret [.int .i64 r] s) ∧ (0 ≤ r ↔ L.any farB = true) := by
  obtain ⟨r, h1, h2⟩ := index_loop (m := m) hl s L.length 0 (by omega)
  refine ⟨r, ?_, by simpa using h2⟩
  apply slices_IndexFunc_props_many_int_of
  unfold slices_IndexFunc_props_many_int
  rw [len_ints]
  exact h1
theorem contains_is {m : Bool} {L : List Int} (hl : L.length < 1000) (s : List O) : RUN 79 [.list m 1 (ints L), .func (.func 80) [] []] s = some (.ret [.bool (L.any farB)] s) := by
  obtain ⟨r, h1, h2⟩ := index_is (m := m) hl s
  apply slices_ContainsFunc_props_many_int_of
  unfold slices_ContainsFunc_props_many_int
  rw [callS1_is h1]
  show some (Out.ret [V.bool (decide (r ≥ 0))] s) = _
  refine ret_eq ?_
  rw [Bool.eq_iff_iff, ← h2]
  simp
theorem many_valid_is {m : Bool} {L : List Int} (hl : L.length < 1000) : RUN 76 [.list m 1 (ints L)] [] = some (.ret [.bool (decide (L.length ≤ 100) && !L.any farB)] []) := by
  apply props_many_valid_of
  unfold props_many_valid
  have J0 : ∀ b s, props_many_valid.J0 XC b s = some (.ret [.bool b] s) := fun b s => props_many_valid.J0_of b s _ rfl
  rw [len_ints, callS1_is (contains_is hl [])]
  simp only [J0, asBool, cond_ret]
  refine ret_eq ?_
  by_cases h : L.length ≤ 100
  · rw [show decide ((L.length : Int) ≤ 100) = true by simp; omega]; simp [h]
  · rw [show decide ((L.length : Int) ≤ 100) = false by simp; omega]; simp [h]
end Go.Proofs.Ytodfenocpbolcaa.E
set_option maxRecDepth 100000
namespace Go.Proofs.Ytodfenocpbolcaa.E
open Go
theorem ck_t {α : Type} (x : Option α) : ck true x = x := rfl
def noS (s : ByteArray) : Bool := s.toList == (⟨#[]⟩ : ByteArray).toList
def ofV (a1 a2 : Int) (a3 : ByteArray) (m : Bool) (L : List Int) : V :=
  bif (a1 == 1) && (noS a3 && ((L.length : Int) == 0)) then .iface 55 (.int .i64 a2)
  else bif (a1 == 2) && ((a2 == 0) && ((L.length : Int) == 0)) then .iface 56 (.str a3)
  else bif (a1 == 3) && (noS a3 && (((L.length : Int) == 0) && ((a2 == 0) || (a2 == 1)))) then .iface 57 (.bool (a2 == 1))
  else bif (a1 == 4) && (noS a3 && (a2 == 0)) then .iface 58 (.list m 1 (ints L))
  else .nilif
abbrev propV (a0 : ByteArray) (a1 a2 : Int) (a3 : ByteArray) (m : Bool) (L : List Int) : V := .agg [.str a0, .int .i64 a1, .int .i64 a2, .str a3, .list m 1 (ints L)]
theorem of_is (a0 : ByteArray) (a1 a2 : Int) (a3 : ByteArray) (m : Bool) (L : List Int) : RUN 12 [propV a0 a1 a2 a3 m L] [] = some (.ret [ofV a1 a2 a3 m L] []) := by
  apply props_of_of
  have J3 : ∀ b, props_of.J3 XC a0 a1 a2 a3 m (ints L) b = some (.ret [bif b then .iface 58 (.list m 1 (ints L)) else .nilif] []) := fun b => props_of.J3_of _ _ _ _ _ _ _ _ (by cases b <;> rfl)
  have J2 : ∀ b, props_of.J2 XC a0 a1 a2 a3 m (ints L) b = some (.ret [bif b then .iface 57 (.bool (a2 == 1)) else bif (a1 == 4) && (noS a3 && (a2 == 0)) then .iface 58 (.list m 1 (ints L)) else .nilif] []) := fun b => props_of.J2_of _ _ _ _ _ _ _ _ (by
    unfold props_of.J2T
    simp only [J3, noS]
    cases b <;> cases (a1 == 4) <;> cases (a3.toList == (⟨#[]⟩ : ByteArray).toList) <;> rfl)
  have J1 : ∀ b, props_of.J1 XC a0 a1 a2 a3 m (ints L) b = some (.ret [bif b then .iface 56 (.str a3) else bif (a1 == 3) && (noS a3 && (((L.length : Int) == 0) && ((a2 == 0) || (a2 == 1)))) then .iface 57 (.bool (a2 == 1))
      else bif (a1 == 4) && (noS a3 && (a2 == 0)) then .iface 58 (.list m 1 (ints L)) else .nilif] []) := fun b => props_of.J1_of _ _ _ _ _ _ _ _ (by
    unfold props_of.J1T
    simp only [J2, noS, len_ints]
    cases b <;> cases (a1 == 3) <;> cases (a3.toList == (⟨#[]⟩ : ByteArray).toList) <;> cases ((L.length : Int) == 0) <;> cases (a2 == 0) <;> rfl)
  have J0 : ∀ b, props_of.J0 XC a0 a1 a2 a3 m (ints L) b = some (.ret [bif b then .iface 55 (.int .i64 a2) else bif (a1 == 2) && ((a2 == 0) && ((L.length : Int) == 0)) then .iface 56 (.str a3)
      else bif (a1 == 3) && (noS a3 && (((L.length : Int) == 0) && ((a2 == 0) || (a2 == 1)))) then .iface 57 (.bool (a2 == 1))
      else bif (a1 == 4) && (noS a3 && (a2 == 0)) then .iface 58 (.list m 1 (ints L)) else .nilif] []) := fun b => props_of.J0_of _ _ _ _ _ _ _ _ (by
    unfold props_of.J0T
    simp only [J1, len_ints]
    cases b <;> cases (a1 == 2) <;> cases (a2 == 0) <;> rfl)
  unfold props_of ofV
  simp only [J0, len_ints, noS]
  cases (a1 == 1) <;> cases (a3.toList == (⟨#[]⟩ : ByteArray).toList) <;> rfl
theorem noObj_ofV (a1 a2 : Int) (a3 : ByteArray) (m : Bool) (L : List Int) : noObj (ofV a1 a2 a3 m L) = true := by
  unfold ofV
  cases ((a1 == 1) && (noS a3 && ((L.length : Int) == 0))) <;> cases ((a1 == 2) && ((a2 == 0) && ((L.length : Int) == 0))) <;> cases ((a1 == 3) && (noS a3 && (((L.length : Int) == 0) && ((a2 == 0) || (a2 == 1))))) <;> cases ((a1 == 4) && (noS a3 && (a2 == 0))) <;> simp [noObj, noObjs_ints]
theorem noObj_prop (a0 : ByteArray) (a1 a2 : Int) (a3 : ByteArray) (m : Bool) (L : List Int) : noObjs [propV a0 a1 a2 a3 m L] = true := by
  simp [noObjs, noObj, noObjs_ints]
def validV (a1 a2 : Int) (a3 : ByteArray) (L : List Int) : Bool :=
  bif (a1 == 1) && (noS a3 && ((L.length : Int) == 0)) then !farB a2
  else bif (a1 == 2) && ((a2 == 0) && ((L.length : Int) == 0)) then decide ((a3.size : Int) ≤ 1000)
  else bif (a1 == 3) && (noS a3 && (((L.length : Int) == 0) && ((a2 == 0) || (a2 == 1)))) then true
  else bif (a1 == 4) && (noS a3 && (a2 == 0)) then decide (L.length ≤ 100) && !L.any farB
  else false
theorem words_valid_is (s : ByteArray) : RUN 68 [.str s] [] = some (.ret [.bool (decide ((s.size : Int) ≤ 1000))] []) := props_words_valid_of s _ rfl
theorem yes_valid_is (b : Bool) : RUN 73 [.bool b] [] = some (.ret [.bool true] []) := props_yes_valid_of b _ rfl
theorem calli55 (n : Int) (K KP : V → List O → R) : CALLI (.iface 55 (.int .i64 n)) "intermede/props.valid" [] [] K KP = K (.bool (!farB n)) [] :=
  (show _ = callP1 (RUN 63 [.int .i64 n] []) (fun v => K v []) (fun p => KP p []) by kernel_rfl).trans (callP1_is (whole_valid_is n) rfl _ _)
theorem calli56 (n : ByteArray) (K KP : V → List O → R) : CALLI (.iface 56 (.str n)) "intermede/props.valid" [] [] K KP = K (.bool (decide ((n.size : Int) ≤ 1000))) [] :=
  (show _ = callP1 (RUN 68 [.str n] []) (fun v => K v []) (fun p => KP p []) by kernel_rfl).trans (callP1_is (words_valid_is n) rfl _ _)
theorem calli57 (n : Bool) (K KP : V → List O → R) : CALLI (.iface 57 (.bool n)) "intermede/props.valid" [] [] K KP = K (.bool true) [] :=
  (show _ = callP1 (RUN 73 [.bool n] []) (fun v => K v []) (fun p => KP p []) by kernel_rfl).trans (callP1_is (yes_valid_is n) rfl _ _)
theorem calli58 (m : Bool) {L : List Int} (hl : L.length < 1000) (K KP : V → List O → R) : CALLI (.iface 58 (.list m 1 (ints L))) "intermede/props.valid" [] [] K KP = K (.bool (decide (L.length ≤ 100) && !L.any farB)) [] := by
  refine (show _ = ck (noObjs [.list m 1 (ints L)]) (callP1 (RUN 76 [.list m 1 (ints L)] []) (fun v => K v []) (fun p => KP p [])) by kernel_rfl).trans ?_
  rw [show noObjs [V.list m 1 (ints L)] = true by simp [noObjs, noObj, noObjs_ints], ck_t]
  exact callP1_is (many_valid_is hl) rfl _ _
theorem valid_is {a0 : ByteArray} (a1 a2 : Int) (a3 : ByteArray) (m : Bool) {L : List Int} (h0 : a0.size < 1000) (hl : L.length < 1000) : RUN 6 [propV a0 a1 a2 a3 m L] [] = some (.ret [.bool (nmFrom a0 a0.size 0 && validV a1 a2 a3 L)] []) := by
  apply props_ValidProp_of
  unfold props_ValidProp
  have J0 : ∀ b s, props_ValidProp.J0 XC b s = some (.ret [.bool b] s) := fun b s => props_ValidProp.J0_of b s _ rfl
  rw [show noObjs [propV a0 a1 a2 a3 m L] = true from noObj_prop .., ck_t, callP1_is (of_is ..) (noObj_ofV ..), callP1_is (named_is h0) rfl]
  simp only [asBool]
  cases nmFrom a0 a0.size 0 with
  | false => simp only [cond_false, J0, Bool.false_and]
  | true =>
    simp only [cond_true, Bool.true_and]
    unfold ofV validV
    cases ((a1 == 1) && (noS a3 && ((L.length : Int) == 0))) with
    | true => simp only [cond_true, nilIfK, Bool.not_false, calli55, J0]
    | false =>
    cases ((a1 == 2) && ((a2 == 0) && ((L.length : Int) == 0))) with
    | true => simp only [cond_true, cond_false, nilIfK, Bool.not_false, calli56, J0]
    | false =>
    cases ((a1 == 3) && (noS a3 && (((L.length : Int) == 0) && ((a2 == 0) || (a2 == 1))))) with
    | true => simp only [cond_true, cond_false, nilIfK, Bool.not_false, calli57, J0]
    | false =>
    cases ((a1 == 4) && (noS a3 && (a2 == 0))) with
    | true => simp only [cond_true, cond_false, nilIfK, Bool.not_false, calli58 m hl, J0]
    | false => simp only [cond_false, nilIfK, Bool.not_true, J0]
end Go.Proofs.Ytodfenocpbolcaa.E
set_option maxRecDepth 100000
namespace Go.Proofs.Ytodfenocpbolcaa.E
open Go
def refTail (a0 : ByteArray) (a1 a2 : Int) (a3 : ByteArray) (L : List Int) : Bool :=
  nmFrom a0 a0.size 0 && (((a1 == 2) || noS a3) && (((a1 == 4) || !decide ((L.length : Int) > 0)) &&
    (bif a1 == 1 then !farB a2 else bif a1 == 2 then (a2 == 0) && decide ((a3.size : Int) ≤ 1000) else bif a1 == 3 then (a2 == 0) || (a2 == 1) else bif a1 == 4 then (a2 == 0) && decide ((L.length : Int) ≤ 100) else false)))
theorem refJ1 {a0 : ByteArray} (a1 a2 : Int) (a3 : ByteArray) (m : Bool) (L : List Int) (b : Bool) : ref30_ValidProp.J1 XC a0 a1 a2 a3 m (ints L) b = some (.ret [.bool (!b && (bif a1 == 1 then !farB a2 else bif a1 == 2 then (a2 == 0) && decide ((a3.size : Int) ≤ 1000) else bif a1 == 3 then (a2 == 0) || (a2 == 1) else bif a1 == 4 then (a2 == 0) && decide ((L.length : Int) ≤ 100) else false))] []) := by
  apply ref30_ValidProp.J1_of
  unfold ref30_ValidProp.J1T
  have J2 : ∀ b, ref30_ValidProp.J2 XC b = some (.ret [.bool b] []) := fun b => ref30_ValidProp.J2_of b _ rfl
  have J3 : ∀ b, ref30_ValidProp.J3 XC b = some (.ret [.bool b] []) := fun b => ref30_ValidProp.J3_of b _ rfl
  have J4 : ∀ b, ref30_ValidProp.J4 XC b = some (.ret [.bool b] []) := fun b => ref30_ValidProp.J4_of b _ rfl
  rw [callP1_is (far_is' a2) rfl]
  simp only [J2, J3, J4, asBool, retR, len_ints]
  cases b <;> cases (a1 == 1) <;> cases (a1 == 2) <;> cases (a1 == 3) <;> cases (a1 == 4) <;> cases (a2 == 0) <;> rfl
theorem ref_loop {a0 : ByteArray} (a1 a2 : Int) (a3 : ByteArray) (m : Bool) {L : List Int} (h0 : a0.size < 1000) (hl : L.length < 1000) : ∀ (k i : Nat), i + k = L.length →
    ref30_ValidProp.L0 XC a0 a1 a2 a3 m (ints L) m (ints L) L.length i = some (.ret [.bool (!(L.drop i).any farB && refTail a0 a1 a2 a3 L)] [])
  | 0, i, h => by
    apply ref30_ValidProp.L0_of
    unfold ref30_ValidProp.L0T
    rw [show decide ((i : Int) < L.length) = false by simp; omega, cond_false, callP1_is (name_is h0) rfl, List.drop_of_length_le (by omega)]
    simp only [asBool, refJ1, len_ints, bne, noS, refTail]
    cases nmFrom a0 a0.size 0 <;> cases (a1 == 2) <;> cases (a1 == 4) <;> cases (a3.toList == (⟨#[]⟩ : ByteArray).toList) <;> cases decide ((L.length : Int) > 0) <;> rfl
  | k + 1, i, h => by
    have hi : i < L.length := by omega
    have ih := ref_loop a1 a2 a3 m h0 hl k (i + 1) (by omega)
    have hd : (L.drop i).any farB = (farB L[i] || (L.drop (i + 1)).any farB) := by rw [List.drop_eq_getElem_cons hi, List.any_cons]
    apply ref30_ValidProp.L0_of
    unfold ref30_ValidProp.L0T
    rw [show decide ((i : Int) < L.length) = true by simp; omega, cond_true, idx_ints (List.getElem?_eq_getElem hi)]
    simp only [V.cells, asCons, asInt, asNil, if_true]
    rw [callP1_is (far_is' _) rfl, wrap1 (show i < 9223372036854775807 by omega), hd]
    simp only [asBool]
    cases farB L[i] with
    | true => rfl
    | false => simp only [cond_false, Bool.false_or]; exact ih
theorem refvalid_is {a0 : ByteArray} (a1 a2 : Int) (a3 : ByteArray) (m : Bool) {L : List Int} (h0 : a0.size < 1000) (hl : L.length < 1000) : RUN 7 [propV a0 a1 a2 a3 m L] [] = some (.ret [.bool (!L.any farB && refTail a0 a1 a2 a3 L)] []) := by
  apply ref30_ValidProp_of
  unfold ref30_ValidProp
  rw [len_ints]
  exact ref_loop a1 a2 a3 m h0 hl L.length 0 (by omega)
theorem valid_same (a0 : ByteArray) (a1 a2 : Int) (a3 : ByteArray) (L : List Int) : (nmFrom a0 a0.size 0 && validV a1 a2 a3 L) = (!L.any farB && refTail a0 a1 a2 a3 L) := by
  unfold validV refTail
  cases nmFrom a0 a0.size 0 with
  | false => simp
  | true =>
    have hz : ((L.length : Int) == 0) = true → L.any farB = false := by
      intro h
      have : L = [] := by simpa using h
      rw [this]; rfl
    have hz2 : decide ((L.length : Int) > 0) = !((L.length : Int) == 0) := by
      cases L with
      | nil => rfl
      | cons a l => simp; omega
    have hz3 : decide (L.length ≤ 100) = decide ((L.length : Int) ≤ 100) := by
      rw [Bool.eq_iff_iff]; simp; omega
    rw [hz2, hz3]
    generalize ((L.length : Int) == 0) = z at hz
    generalize L.any farB = f at hz
    generalize decide ((L.length : Int) ≤ 100) = q
    generalize noS a3 = e
    by_cases h1 : a1 = 1
    · subst h1; cases e <;> cases z <;> cases f <;> simp_all
    · by_cases h2 : a1 = 2
      · subst h2; cases e <;> cases z <;> cases f <;> simp_all
      · by_cases h3 : a1 = 3
        · subst h3; cases e <;> cases z <;> cases f <;> simp_all
        · by_cases h4 : a1 = 4
          · subst h4; cases e <;> cases z <;> cases f <;> simp_all <;> cases (a2 == 0) <;> simp_all
          · rw [show (a1 == 1) = false by simpa using h1, show (a1 == 2) = false by simpa using h2, show (a1 == 3) = false by simpa using h3, show (a1 == 4) = false by simpa using h4]; simp
end Go.Proofs.Ytodfenocpbolcaa.E
set_option maxRecDepth 100000
namespace Go.Proofs.Ytodfenocpbolcaa.E
open Go
def sgn (a b : Int) : Int := bif decide (a < b) then -1 else bif decide (a > b) then 1 else 0
theorem retI {b : Bool} {x y : Int} {s : List O} : (bif b then (some (.ret [.int .i64 x] s) : R) else some (.ret [.int .i64 y] s)) = some (.ret [.int .i64 (bif b then x else y)] s) := by cases b <;> rfl
theorem retI_eq {x y : Int} {s : List O} (h : x = y) : (some (.ret [.int .i64 x] s) : R) = some (.ret [.int .i64 y] s) := by rw [h]
theorem cstr_is (a b : ByteArray) : RUN 18 [.str a, .str b] [] = some (.ret [.int .i64 (cmpS a b)] []) := by
  apply strings_Compare_of
  unfold strings_Compare
  rw [callP1_is (internal_bytealg_CompareString_of a b _ rfl) rfl]
  rfl
theorem refcmp_is (a b : Int) : RUN 21 [.int .i64 a, .int .i64 b] [] = some (.ret [.int .i64 (sgn a b)] []) := by
  apply ref30_compare_of
  unfold ref30_compare sgn
  simp only [retR, retI]
theorem cmpint_is (a b : Int) : RUN 19 [.int .i64 a, .int .i64 b] [] = some (.ret [.int .i64 (sgn a b)] []) := by
  apply cmp_Compare_int_of
  unfold cmp_Compare_int sgn
  have nan : ∀ a : Int, RUN 27 [.int .i64 a] [] = some (.ret [.bool false] []) := fun a => cmp_isNaN_int_of a _ (by unfold cmp_isNaN_int; rw [show (a != a) = false by simp]; rfl)
  rw [callP1_is (nan a) rfl, show asBool (V.bool false) = fun K => K false from rfl]
  simp only []
  rw [callP1_is (nan b) rfl]
  simp only [asBool, cond_false, retR, retI]
theorem cmpwhole_is (a b : Int) : RUN 65 [.int .i64 a, .int .i64 b] [] = some (.ret [.int .i64 (sgn a b)] []) := by
  apply cmp_Compare_props_whole_of
  unfold cmp_Compare_props_whole sgn
  have nan : ∀ a : Int, RUN 66 [.int .i64 a] [] = some (.ret [.bool false] []) := fun a => cmp_isNaN_props_whole_of a _ (by unfold cmp_isNaN_props_whole; rw [show (a != a) = false by simp]; rfl)
  rw [callP1_is (nan a) rfl, show asBool (V.bool false) = fun K => K false from rfl]
  simp only []
  rw [callP1_is (nan b) rfl]
  simp only [asBool, cond_false, retR, retI]
theorem cmpwords_is (a b : ByteArray) : RUN 70 [.str a, .str b] [] = some (.ret [.int .i64 (cmpS a b)] []) := by
  apply cmp_Compare_props_words_of
  unfold cmp_Compare_props_words
  have nan : ∀ a : ByteArray, RUN 71 [.str a] [] = some (.ret [.bool false] []) := fun a => cmp_isNaN_props_words_of a _ (by unfold cmp_isNaN_props_words; rw [show (!(a.toList == a.toList)) = false by simp]; rfl)
  rw [callP1_is (nan a) rfl, show asBool (V.bool false) = fun K => K false from rfl]
  simp only []
  rw [callP1_is (nan b) rfl]
  simp only [asBool, cond_false, retR, retI]
  refine retI_eq ?_
  unfold cmpS
  by_cases h1 : Op.bytesLess a.toList b.toList = true
  · simp [h1]
  · by_cases h2 : a.toList = b.toList
    · simp [h2]; 
    · simp [h1, h2, show (a.toList == b.toList) = false from by simpa using h2]
def rankV : V → Int | .iface 55 _ => 1 | .iface 56 _ => 2 | .iface 57 _ => 3 | _ => 4
/-- Lists compared. -/
def cmpL : List Int → List Int → Int
  | [], [] => 0
  | [], _ :: _ => -1
  | _ :: _, [] => 1
  | a :: x, b :: y => bif sgn a b != 0 then sgn a b else cmpL x y
theorem bytesLess_irrefl : ∀ l : List UInt8, Op.bytesLess l l = false
  | [] => rfl
  | a :: l => by simp [Op.bytesLess, bytesLess_irrefl l]
theorem cmpS_self {a b : ByteArray} (h : a.toList = b.toList) : cmpS a b = 0 := by unfold cmpS; rw [h, bytesLess_irrefl]; simp
theorem cmpS_ne {a b : ByteArray} (h : a.toList ≠ b.toList) : cmpS a b ≠ 0 := by
  unfold cmpS
  by_cases h1 : Op.bytesLess a.toList b.toList = true
  · simp [h1]
  · simp [h1, h]
theorem ref_cmp_loop (s1 : ByteArray) (n1 n2 : Int) (s2 : ByteArray) (m1 : Bool) {L : List Int} (s3 : ByteArray) (n3 n4 : Int) (s4 : ByteArray) (m2 : Bool) {M : List Int} (hl : L.length < 1000) (hm : M.length < 1000) (q : Nat) (hq1 : q ≤ L.length) (hq2 : q ≤ M.length) (hq : q = L.length ∨ q = M.length) : ∀ (k i : Nat), i + k = q →
    ref30_Compare.L0 XC s1 n1 n2 s2 m1 (ints L) s3 n3 n4 s4 m2 (ints M) q i = some (.ret [.int .i64 (cmpL (L.drop i) (M.drop i))] [])
  | 0, i, h => by
    obtain rfl : i = q := by omega
    apply ref30_Compare.L0_of
    unfold ref30_Compare.L0T
    rw [show decide ((i : Int) < i) = false by simp, cond_false, callP1_is (refcmp_is _ _) rfl]
    show some (Out.ret [V.int .i64 (sgn _ _)] []) = _
    refine retI_eq ?_
    rw [len_ints, len_ints]
    rcases hq with hq | hq
    · rw [List.drop_of_length_le (l := L) (by omega)]
      rcases Nat.lt_or_ge i M.length with h' | h'
      · rw [List.drop_eq_getElem_cons h']
        have : (L.length : Int) < M.length := by omega
        simp [sgn, cmpL, this]
      · rw [List.drop_of_length_le (l := M) (by omega)]
        have : L.length = M.length := by omega
        simp [sgn, cmpL, this]
    · rw [List.drop_of_length_le (l := M) (by omega)]
      rcases Nat.lt_or_ge i L.length with h' | h'
      · rw [List.drop_eq_getElem_cons h']
        have h1 : ¬ (L.length : Int) < M.length := by omega
        have h2 : (M.length : Int) < L.length := by omega
        simp [sgn, cmpL, h1, h2]
      · rw [List.drop_of_length_le (l := L) (by omega)]
        have : L.length = M.length := by omega
        simp [sgn, cmpL, this]
  | k + 1, i, h => by
    have h1 : i < L.length := by omega
    have h2 : i < M.length := by omega
    have ih := ref_cmp_loop s1 n1 n2 s2 m1 (L := L) s3 n3 n4 s4 m2 (M := M) hl hm q hq1 hq2 hq k (i + 1) (by omega)
    apply ref30_Compare.L0_of
    unfold ref30_Compare.L0T
    rw [show decide ((i : Int) < q) = true by simp; omega, cond_true, idx_ints (List.getElem?_eq_getElem h1)]
    simp only [V.cells, asCons, asInt, asNil, if_true, idx_ints (List.getElem?_eq_getElem h2)]
    rw [callP1_is (refcmp_is _ _) rfl, wrap1 (show i < 9223372036854775807 by omega), List.drop_eq_getElem_cons h1, List.drop_eq_getElem_cons h2]
    simp only [if_true, cmpL]
    cases (sgn L[i] M[i] != 0) with
    | true => rfl
    | false => simp only [cond_false]; exact ih
end Go.Proofs.Ytodfenocpbolcaa.E
set_option maxRecDepth 100000
namespace Go.Proofs.Ytodfenocpbolcaa.E
open Go
theorem cmpL_nil (M : List Int) : cmpL [] M = bif decide ((0 : Int) < M.length) then -1 else 0 := by
  cases M with
  | nil => rfl
  | cons a l => simp [cmpL]
theorem scmp_loop (m1 m2 m3 : Bool) {L M : List Int} (hl : L.length < 1000) : ∀ (k i : Nat), i + k = L.length → i ≤ M.length →
    slices_Compare_int_int.L0 XC m1 (ints L) m2 (ints M) m3 (ints L) L.length i = some (.ret [.int .i64 (cmpL (L.drop i) (M.drop i))] [])
  | 0, i, h, hm => by
    apply slices_Compare_int_int.L0_of
    unfold slices_Compare_int_int.L0T
    rw [show decide ((i : Int) < L.length) = false by simp; omega, cond_false, List.drop_of_length_le (l := L) (by omega), cmpL_nil, len_ints, len_ints]
    simp only [retR, retI]
    refine retI_eq ?_
    rw [show decide ((L.length : Int) < M.length) = decide ((0 : Int) < (M.drop i).length) by rw [Bool.eq_iff_iff]; simp; omega]
  | k + 1, i, h, hm => by
    have h1 : i < L.length := by omega
    apply slices_Compare_int_int.L0_of
    unfold slices_Compare_int_int.L0T
    rw [show decide ((i : Int) < L.length) = true by simp; omega, cond_true, idx_ints (List.getElem?_eq_getElem h1)]
    simp only [V.cells, asCons, asInt, asNil, if_true, len_ints]
    rw [List.drop_eq_getElem_cons h1]
    rcases Nat.lt_or_ge i M.length with h2 | h2
    · have ih := scmp_loop m1 m2 m3 (L := L) (M := M) hl k (i + 1) (by omega) (by omega)
      rw [show decide ((i : Int) ≥ M.length) = false by simp; omega, cond_false, idx_ints (List.getElem?_eq_getElem h2), List.drop_eq_getElem_cons h2]
      simp only [if_true]
      rw [callP1_is (cmpint_is _ _) rfl, wrap1 (show i < 9223372036854775807 by omega)]
      simp only [if_true, cmpL]
      cases (sgn L[i] M[i] != 0) with
      | true => rfl
      | false => simp only [cond_false]; exact ih
    · rw [show decide ((i : Int) ≥ M.length) = true by simp; omega, cond_true, List.drop_of_length_le (l := M) (by omega)]
      rfl
theorem scmp_is (m1 m2 : Bool) {L M : List Int} (hl : L.length < 1000) : RUN 20 [.list m1 1 (ints L), .list m2 1 (ints M)] [] = some (.ret [.int .i64 (cmpL L M)] []) := by
  apply slices_Compare_int_int_of
  unfold slices_Compare_int_int
  rw [len_ints]
  exact scmp_loop m1 m2 m1 hl L.length 0 (by omega) (by omega)
theorem mcmp_loop (m1 m2 m3 : Bool) {L M : List Int} (hl : L.length < 1000) : ∀ (k i : Nat), i + k = L.length → i ≤ M.length →
    slices_Compare_props_many_int.L0 XC m1 (ints L) m2 (ints M) m3 (ints L) L.length i = some (.ret [.int .i64 (cmpL (L.drop i) (M.drop i))] [])
  | 0, i, h, hm => by
    apply slices_Compare_props_many_int.L0_of
    unfold slices_Compare_props_many_int.L0T
    rw [show decide ((i : Int) < L.length) = false by simp; omega, cond_false, List.drop_of_length_le (l := L) (by omega), cmpL_nil, len_ints, len_ints]
    simp only [retR, retI]
    refine retI_eq ?_
    rw [show decide ((L.length : Int) < M.length) = decide ((0 : Int) < (M.drop i).length) by rw [Bool.eq_iff_iff]; simp; omega]
  | k + 1, i, h, hm => by
    have h1 : i < L.length := by omega
    apply slices_Compare_props_many_int.L0_of
    unfold slices_Compare_props_many_int.L0T
    rw [show decide ((i : Int) < L.length) = true by simp; omega, cond_true, idx_ints (List.getElem?_eq_getElem h1)]
    simp only [V.cells, asCons, asInt, asNil, if_true, len_ints]
    rw [List.drop_eq_getElem_cons h1]
    rcases Nat.lt_or_ge i M.length with h2 | h2
    · have ih := mcmp_loop m1 m2 m3 (L := L) (M := M) hl k (i + 1) (by omega) (by omega)
      rw [show decide ((i : Int) ≥ M.length) = false by simp; omega, cond_false, idx_ints (List.getElem?_eq_getElem h2), List.drop_eq_getElem_cons h2]
      simp only [if_true]
      rw [callP1_is (cmpint_is _ _) rfl, wrap1 (show i < 9223372036854775807 by omega)]
      simp only [if_true, cmpL]
      cases (sgn L[i] M[i] != 0) with
      | true => rfl
      | false => simp only [cond_false]; exact ih
    · rw [show decide ((i : Int) ≥ M.length) = true by simp; omega, cond_true, List.drop_of_length_le (l := M) (by omega)]
      rfl
theorem mcmp_is (m1 m2 : Bool) {L M : List Int} (hl : L.length < 1000) : RUN 78 [.list m1 1 (ints L), .list m2 1 (ints M)] [] = some (.ret [.int .i64 (cmpL L M)] []) := by
  apply slices_Compare_props_many_int_of
  unfold slices_Compare_props_many_int
  rw [len_ints]
  exact mcmp_loop m1 m2 m1 hl L.length 0 (by omega) (by omega)
def orL : List Int → Int
  | [] => 0
  | a :: l => bif a != 0 then a else orL l
theorem or_loop (m1 m2 : Bool) {L : List Int} (hl : L.length < 1000) : ∀ (k i : Nat), i + k = L.length → cmp_Or_int.L0 XC m1 (ints L) L.length i = some (.ret [.int .i64 (orL (L.drop i))] [])
  | 0, i, h => by
    apply cmp_Or_int.L0_of
    unfold cmp_Or_int.L0T
    rw [show decide ((i : Int) < L.length) = false by simp; omega, cond_false, List.drop_of_length_le (l := L) (by omega)]
    rfl
  | k + 1, i, h => by
    have h1 : i < L.length := by omega
    have ih := or_loop m1 m2 (L := L) hl k (i + 1) (by omega)
    apply cmp_Or_int.L0_of
    unfold cmp_Or_int.L0T
    rw [show decide ((i : Int) < L.length) = true by simp; omega, cond_true, idx_ints (List.getElem?_eq_getElem h1)]
    simp only [V.cells, asCons, asInt, asNil, if_true]
    rw [wrap1 (show i < 9223372036854775807 by omega), List.drop_eq_getElem_cons h1]
    simp only [orL]
    cases (L[i] != 0) with
    | true => rfl
    | false => simp only [cond_false]; exact ih
theorem or_is (m1 : Bool) {L : List Int} (hl : L.length < 1000) : RUN 17 [.list m1 1 (ints L)] [] = some (.ret [.int .i64 (orL L)] []) := by
  apply cmp_Or_int_of
  unfold cmp_Or_int
  rw [len_ints]
  exact or_loop m1 m1 hl L.length 0 (by omega)
theorem rank_is (a1 a2 : Int) (a3 : ByteArray) (m : Bool) (L : List Int) : RUN 16 [ofV a1 a2 a3 m L] [] = some (.ret [.int .i64 (rankV (ofV a1 a2 a3 m L))] []) := by
  apply props_rank_of
  unfold ofV
  cases ((a1 == 1) && (noS a3 && ((L.length : Int) == 0))) <;> cases ((a1 == 2) && ((a2 == 0) && ((L.length : Int) == 0))) <;> cases ((a1 == 3) && (noS a3 && (((L.length : Int) == 0) && ((a2 == 0) || (a2 == 1))))) <;> cases ((a1 == 4) && (noS a3 && (a2 == 0))) <;> rfl
end Go.Proofs.Ytodfenocpbolcaa.E
set_option maxRecDepth 100000
namespace Go.Proofs.Ytodfenocpbolcaa.E
open Go
def refCmp (a0 : ByteArray) (a1 a2 : Int) (a3 : ByteArray) (L : List Int) (b0 : ByteArray) (b1 b2 : Int) (b3 : ByteArray) (M : List Int) : Int :=
  bif cmpS a0 b0 != 0 then cmpS a0 b0 else bif sgn a1 b1 != 0 then sgn a1 b1 else bif a1 == 2 then cmpS a3 b3 else bif a1 == 4 then cmpL L M else sgn a2 b2
theorem refcompare_is (a0 : ByteArray) (a1 a2 : Int) (a3 : ByteArray) (m : Bool) {L : List Int} (b0 : ByteArray) (b1 b2 : Int) (b3 : ByteArray) (m' : Bool) {M : List Int} (hl : L.length < 1000) (hm : M.length < 1000) :
    RUN 9 [propV a0 a1 a2 a3 m L, propV b0 b1 b2 b3 m' M] [] = some (.ret [.int .i64 (refCmp a0 a1 a2 a3 L b0 b1 b2 b3 M)] []) := by
  apply ref30_Compare_of
  unfold ref30_Compare refCmp
  rw [callP1_is (cstr_is _ _) rfl]
  simp only [asInt, if_true]
  cases (cmpS a0 b0 != 0) with
  | true => rfl
  | false =>
    simp only [cond_false]
    rw [callP1_is (refcmp_is _ _) rfl]
    simp only [if_true]
    cases (sgn a1 b1 != 0) with
    | true => rfl
    | false =>
      simp only [cond_false]
      cases (a1 == 2) with
      | true => simp only [cond_true]; rw [callP1_is (cstr_is _ _) rfl]; rfl
      | false =>
        simp only [cond_false]
        cases (a1 == 4) with
        | true =>
          simp only [cond_true, len_ints]
          rcases Nat.lt_or_ge M.length L.length with h | h
          · rw [if_pos (by omega)]
            exact ref_cmp_loop a0 a1 a2 a3 m b0 b1 b2 b3 m' hl hm M.length (by omega) (by omega) (.inr rfl) M.length 0 (by omega)
          · rw [if_neg (by omega)]
            exact ref_cmp_loop a0 a1 a2 a3 m b0 b1 b2 b3 m' hl hm L.length (by omega) (by omega) (.inl rfl) L.length 0 (by omega)
        | false => simp only [cond_false]; rw [callP1_is (refcmp_is _ _) rfl]; rfl
theorem valid_kinds {a1 a2 : Int} {a3 : ByteArray} {L : List Int} (m : Bool) (h : validV a1 a2 a3 L = true) :
    (a1 = 1 ∧ ofV a1 a2 a3 m L = .iface 55 (.int .i64 a2)) ∨ (a1 = 2 ∧ ofV a1 a2 a3 m L = .iface 56 (.str a3)) ∨ (a1 = 3 ∧ (a2 = 0 ∨ a2 = 1) ∧ ofV a1 a2 a3 m L = .iface 57 (.bool (a2 == 1))) ∨ (a1 = 4 ∧ ofV a1 a2 a3 m L = .iface 58 (.list m 1 (ints L))) := by
  unfold validV at h
  unfold ofV
  cases h1 : ((a1 == 1) && (noS a3 && ((L.length : Int) == 0))) with
  | true => exact .inl ⟨by simp only [Bool.and_eq_true, beq_iff_eq] at h1; exact h1.1, rfl⟩
  | false =>
  cases h2 : ((a1 == 2) && ((a2 == 0) && ((L.length : Int) == 0))) with
  | true => exact .inr (.inl ⟨by simp only [Bool.and_eq_true, beq_iff_eq] at h2; exact h2.1, rfl⟩)
  | false =>
  cases h3 : ((a1 == 3) && (noS a3 && (((L.length : Int) == 0) && ((a2 == 0) || (a2 == 1))))) with
  | true =>
    simp only [Bool.and_eq_true, Bool.or_eq_true, beq_iff_eq] at h3
    exact .inr (.inr (.inl ⟨h3.1, h3.2.2.2, rfl⟩))
  | false =>
  cases h4 : ((a1 == 4) && (noS a3 && (a2 == 0))) with
  | true => exact .inr (.inr (.inr ⟨by simp only [Bool.and_eq_true, beq_iff_eq] at h4; exact h4.1, rfl⟩))
  | false => rw [h1, h2, h3, h4] at h; cases h
section
variable (a0 : ByteArray) (a1 a2 : Int) (a3 : ByteArray) (m : Bool) {L : List Int} (b0 : ByteArray) (b1 b2 : Int) (b3 : ByteArray) (m' : Bool) {M : List Int}
theorem J0false (va vb : V) (hl : L.length < 1000) : props_Compare.J0 XC a0 a1 a2 a3 m (ints L) b0 b1 b2 b3 m' (ints M) va vb false = some (.ret [.int .i64 (orL [cmpS a0 b0, sgn a1 b1, sgn a2 b2, cmpS a3 b3, cmpL L M])] []) := by
  apply props_Compare.J0_of
  unfold props_Compare.J0T
  simp only [cond_false]
  rw [callP1_is (cstr_is _ _) rfl]
  simp only [asInt, if_true]
  rw [callP1_is (cmpint_is _ _) rfl]
  simp only [if_true]
  rw [callP1_is (cmpint_is _ _) rfl]
  simp only [if_true]
  rw [callP1_is (cstr_is _ _) rfl]
  simp only [if_true]
  rw [show noObjs [V.list m 1 (ints L), V.list m' 1 (ints M)] = true by simp [noObjs, noObj, noObjs_ints], ck_t, callP1_is (scmp_is m m' hl) rfl]
  simp only [if_true]
  have := or_is true (L := [cmpS a0 b0, sgn a1 b1, sgn a2 b2, cmpS a3 b3, cmpL L M]) (by simp)
  simp only [ints, List.map_cons, List.map_nil] at this
  rw [callP1_is this rfl]
  rfl
end
end Go.Proofs.Ytodfenocpbolcaa.E
set_option maxRecDepth 100000
namespace Go.Proofs.Ytodfenocpbolcaa.E
open Go
def cmpB (a b : Bool) : Int := bif a == b then 0 else bif a then 1 else -1
theorem wcmp_is (a b : Int) : RUN 62 [.int .i64 a, .iface 55 (.int .i64 b)] [] = some (.ret [.int .i64 (sgn a b)] []) := by
  apply props_whole_compare_of
  unfold props_whole_compare
  simp only [tyK, asInt, if_true, beq_self_eq_true, cond_true]
  rw [callP1_is (cmpwhole_is _ _) rfl]
  rfl
theorem tcmp_is (a b : ByteArray) : RUN 67 [.str a, .iface 56 (.str b)] [] = some (.ret [.int .i64 (cmpS a b)] []) := by
  apply props_words_compare_of
  unfold props_words_compare
  simp only [tyK, asStr, beq_self_eq_true, cond_true]
  rw [callP1_is (cmpwords_is _ _) rfl]
  rfl
theorem ycmp_is (a b : Bool) : RUN 72 [.bool a, .iface 57 (.bool b)] [] = some (.ret [.int .i64 (cmpB a b)] []) := by
  apply props_yes_compare_of
  cases a <;> cases b <;> rfl
theorem lcmp_is (m m' : Bool) {L M : List Int} (hl : L.length < 1000) : RUN 75 [.list m 1 (ints L), .iface 58 (.list m' 1 (ints M))] [] = some (.ret [.int .i64 (cmpL L M)] []) := by
  apply props_many_compare_of
  unfold props_many_compare
  show ck (noObjs [.list m 1 (ints L), .list m' 1 (ints M)]) (callP1 (RUN 78 [.list m 1 (ints L), .list m' 1 (ints M)] []) _ _) = _
  rw [show noObjs [V.list m 1 (ints L), V.list m' 1 (ints M)] = true by simp [noObjs, noObj, noObjs_ints], ck_t, callP1_is (mcmp_is m m' hl) rfl]
  rfl
theorem callc55 (a b : Int) (K KP : V → List O → R) : CALLI (.iface 55 (.int .i64 a)) "intermede/props.compare" [.iface 55 (.int .i64 b)] [] K KP = K (.int .i64 (sgn a b)) [] :=
  (show _ = callP1 (RUN 62 [.int .i64 a, .iface 55 (.int .i64 b)] []) (fun v => K v []) (fun p => KP p []) by kernel_rfl).trans (callP1_is (wcmp_is a b) rfl _ _)
theorem callc56 (a b : ByteArray) (K KP : V → List O → R) : CALLI (.iface 56 (.str a)) "intermede/props.compare" [.iface 56 (.str b)] [] K KP = K (.int .i64 (cmpS a b)) [] :=
  (show _ = callP1 (RUN 67 [.str a, .iface 56 (.str b)] []) (fun v => K v []) (fun p => KP p []) by kernel_rfl).trans (callP1_is (tcmp_is a b) rfl _ _)
theorem callc57 (a b : Bool) (K KP : V → List O → R) : CALLI (.iface 57 (.bool a)) "intermede/props.compare" [.iface 57 (.bool b)] [] K KP = K (.int .i64 (cmpB a b)) [] :=
  (show _ = callP1 (RUN 72 [.bool a, .iface 57 (.bool b)] []) (fun v => K v []) (fun p => KP p []) by kernel_rfl).trans (callP1_is (ycmp_is a b) rfl _ _)
theorem callc58 (m m' : Bool) {L M : List Int} (hl : L.length < 1000) (K KP : V → List O → R) : CALLI (.iface 58 (.list m 1 (ints L))) "intermede/props.compare" [.iface 58 (.list m' 1 (ints M))] [] K KP = K (.int .i64 (cmpL L M)) [] := by
  refine (show _ = ck (noObjs [.list m 1 (ints L), .iface 58 (.list m' 1 (ints M))]) (callP1 (RUN 75 [.list m 1 (ints L), .iface 58 (.list m' 1 (ints M))] []) (fun v => K v []) (fun p => KP p [])) by kernel_rfl).trans ?_
  rw [show noObjs [V.list m 1 (ints L), V.iface 58 (.list m' 1 (ints M))] = true by simp [noObjs, noObj, noObjs_ints], ck_t]
  exact callP1_is (lcmp_is m m' hl) rfl _ _
theorem sgn_self (a : Int) : sgn a a = 0 := by simp [sgn]
theorem sgn_ne {a b : Int} (h : a ≠ b) : sgn a b ≠ 0 := by
  unfold sgn
  by_cases h1 : a < b
  · simp [h1]
  · have : a > b := by omega
    simp [h1, this]
theorem nilIf_iface (t : Nat) (v : V) (K : Bool → R) : nilIfK (.iface t v) K = K false := rfl
theorem cmp_yes {a b : Int} (ha : a = 0 ∨ a = 1) (hb : b = 0 ∨ b = 1) : cmpB (a == 1) (b == 1) = sgn a b := by
  rcases ha with rfl | rfl <;> rcases hb with rfl | rfl <;> rfl
/-- At the test of the ranks. -/
theorem compare_is {a0 : ByteArray} {a1 a2 : Int} {a3 : ByteArray} (m : Bool) {L : List Int} {b0 : ByteArray} {b1 b2 : Int} {b3 : ByteArray} (m' : Bool) {M : List Int} (hl : L.length < 1000) (hm : M.length < 1000)
    (ha : validV a1 a2 a3 L = true) (hb : validV b1 b2 b3 M = true) : RUN 8 [propV a0 a1 a2 a3 m L, propV b0 b1 b2 b3 m' M] [] = some (.ret [.int .i64 (refCmp a0 a1 a2 a3 L b0 b1 b2 b3 M)] []) := by
  apply props_Compare_of
  unfold props_Compare
  rw [show noObjs [propV a0 a1 a2 a3 m L] = true from noObj_prop .., ck_t, callP1_is (of_is a0 a1 a2 a3 m L) (noObj_ofV ..)]
  rw [show noObjs [propV b0 b1 b2 b3 m' M] = true from noObj_prop .., ck_t, callP1_is (of_is b0 b1 b2 b3 m' M) (noObj_ofV ..)]
  have ra := rank_is a1 a2 a3 m L
  have rb := rank_is b1 b2 b3 m' M
  have na := noObj_ofV a1 a2 a3 m L
  have nb := noObj_ofV b1 b2 b3 m' M
  have goal : ∀ {ta tb : Nat} {va vb : V}, ofV a1 a2 a3 m L = .iface ta va → ofV b1 b2 b3 m' M = .iface tb vb → rankV (.iface ta va) = a1 → rankV (.iface tb vb) = b1 →
      (a1 = b1 → a0.toList = b0.toList → props_Compare.J0 XC a0 a1 a2 a3 m (ints L) b0 b1 b2 b3 m' (ints M) (.iface ta va) (.iface tb vb) true = some (.ret [.int .i64 (refCmp a0 a1 a2 a3 L b0 b1 b2 b3 M)] [])) →
      (nilIfK (ofV a1 a2 a3 m L) fun b104 => bif (!b104) then nilIfK (ofV b1 b2 b3 m' M) fun b105 => bif (!b105) then bif ((a0).toList == (b0).toList) then ck (([ofV a1 a2 a3 m L]).all okArg) (ck (noObjs [ofV a1 a2 a3 m L]) (callP1 (RUN 16 [ofV a1 a2 a3 m L] []) (fun v106 => asInt .i64 v106 fun n108 => ck (([ofV b1 b2 b3 m' M]).all okArg) (ck (noObjs [ofV b1 b2 b3 m' M]) (callP1 (RUN 16 [ofV b1 b2 b3 m' M] []) (fun v109 => asInt .i64 v109 fun n111 => props_Compare.J0 XC (a0) (a1) (a2) (a3) (m) (ints L) (b0) (b1) (b2) (b3) (m') (ints M) (ofV a1 a2 a3 m L) (ofV b1 b2 b3 m' M) ((n108 == n111))) (fun p110 => panK p110 [])))) (fun p107 => panK p107 []))) else props_Compare.J0 XC (a0) (a1) (a2) (a3) (m) (ints L) (b0) (b1) (b2) (b3) (m') (ints M) (ofV a1 a2 a3 m L) (ofV b1 b2 b3 m' M) (false) else props_Compare.J0 XC (a0) (a1) (a2) (a3) (m) (ints L) (b0) (b1) (b2) (b3) (m') (ints M) (ofV a1 a2 a3 m L) (ofV b1 b2 b3 m' M) (false) else props_Compare.J0 XC (a0) (a1) (a2) (a3) (m) (ints L) (b0) (b1) (b2) (b3) (m') (ints M) (ofV a1 a2 a3 m L) (ofV b1 b2 b3 m' M) (false)) = some (.ret [.int .i64 (refCmp a0 a1 a2 a3 L b0 b1 b2 b3 M)] []) := by
    intro ta tb va vb e1 e2 e3 e4 hyes
    rw [e1] at ra na
    rw [e2] at rb nb
    rw [e1, e2, nilIf_iface, Bool.not_false, cond_true, nilIf_iface, Bool.not_false, cond_true]
    rw [show ([V.iface ta va]).all okArg = true from rfl, show ([V.iface tb vb]).all okArg = true from rfl, show noObjs [V.iface ta va] = true by simp [noObjs, na], show noObjs [V.iface tb vb] = true by simp [noObjs, nb]]
    simp only [ck_t]
    rw [callP1_is ra rfl]
    simp only [asInt, if_true]
    rw [callP1_is rb rfl]
    simp only [if_true, e3, e4]
    by_cases hn : a0.toList = b0.toList
    · rw [show (a0.toList == b0.toList) = true by simpa using hn, cond_true]
      by_cases hk : a1 = b1
      · rw [show (a1 == b1) = true by simpa using hk]
        exact hyes hk hn
      · rw [show (a1 == b1) = false by simpa using hk, J0false _ _ _ _ _ _ _ _ _ _ _ _ hl]
        refine retI_eq ?_
        unfold refCmp
        simp only [orL, cmpS_self hn, show ((0 : Int) != 0) = false from rfl, cond_false]
        rw [show (sgn a1 b1 != 0) = true by simpa using sgn_ne hk]
        rfl
    · rw [show (a0.toList == b0.toList) = false by simpa using hn, cond_false, J0false _ _ _ _ _ _ _ _ _ _ _ _ hl]
      refine retI_eq ?_
      unfold refCmp
      simp only [orL]
      rw [show (cmpS a0 b0 != 0) = true by simpa using cmpS_ne hn]
      rfl
  have no : ∀ {k l : Int} {P : Prop}, a1 = k → b1 = l → k ≠ l → a1 = b1 → P := fun h1 h2 h3 h => absurd (h1.symm.trans (h.trans h2)) h3
  rcases valid_kinds m ha with ⟨ea, fa⟩ | ⟨ea, fa⟩ | ⟨ea, qa, fa⟩ | ⟨ea, fa⟩ <;> rcases valid_kinds m' hb with ⟨eb, fb⟩ | ⟨eb, fb⟩ | ⟨eb, qb, fb⟩ | ⟨eb, fb⟩ <;>
    refine goal fa fb (by rw [ea]; rfl) (by rw [eb]; rfl) fun hk hn => ?_ <;>
    first
      | exact no ea eb (by decide) hk
      | (apply props_Compare.J0_of
         unfold props_Compare.J0T
         simp only [cond_true, callc55, callc56, callc57, callc58 m m' hl, asInt, if_true]
         refine retI_eq ?_
         unfold refCmp
         rw [cmpS_self hn, hk, sgn_self, eb]
         first
           | rfl
           | exact cmp_yes qa qb)
end Go.Proofs.Ytodfenocpbolcaa.E
