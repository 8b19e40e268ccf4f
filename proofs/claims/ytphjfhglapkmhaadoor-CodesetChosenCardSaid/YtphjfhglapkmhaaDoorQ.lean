/- It is proved of the functions that CodesetChosen calls what they answer, and that its evaluation answers true at any two sides. No condition. -/
import Derived.Test.YtphjfhglapkmhaaDoorLF
import Derived.IntWalk
import Derived.KernelRfl
import Derived.Lib.SplitLaws
import Derived.Lib.Join
set_option maxRecDepth 100000
namespace Go.Proofs.YtphjfhglapkmhaaDoor.E
open Go
theorem cond_ret {b x y : Bool} {s : List O} : (bif b then (some (.ret [.bool x] s) : R) else some (.ret [.bool y] s)) = some (.ret [.bool (bif b then x else y)] s) := by cases b <;> rfl
theorem ret_eq {x y : Bool} {s : List O} (h : x = y) : (some (.ret [.bool x] s) : R) = some (.ret [.bool y] s) := by rw [h]
theorem ck_t {α : Type} (x : Option α) : ck true x = x := rfl
theorem wrap1 {i : Nat} (h : i < 1000000000) : IntKind.i64.wrap ((i : Int) + 1) = ((i + 1 : Nat) : Int) := by
  rw [IntWalk.i64_in _ (by omega)]; omega
def ints (L : List Int) : List V := L.map fun n => .int .i64 n
theorem idx_ints {L : List Int} {i : Nat} {x : Int} (h : L[i]? = some x) (K : V → R) : idxK (ints L) (i : Int) K = K (.int .i64 x) := by
  unfold idxK ints
  rw [if_pos (by omega), show ((i : Int)).toNat = i from rfl, List.getElem?_map, h]
  rfl
theorem len_ints (L : List Int) : (ints L).length = L.length := by simp [ints]
theorem noObjs_ints (L : List Int) : noObjs (ints L) = true := by
  induction L with
  | nil => rfl
  | cons a l ih => simp only [ints, List.map_cons] at ih ⊢; simp only [noObjs, noObj, ih, Bool.and_self]
theorem take_ints (L : List Int) (i : Nat) : ((ints L).take ((i : Nat) : Int).toNat).drop ((0 : Int)).toNat = ints (L.take i) := by
  simp [ints, List.map_take]
theorem callP1_is {x : R} {v : V} {s : List O} (h : x = some (.ret [v] s)) (hv : noObj v = true) (K KP : V → R) : callP1 x K KP = K v := by
  rw [h]
  show ck (noObjs [v]) _ = _
  rw [show noObjs [v] = true by simp [noObjs, hv]]
  rfl
theorem callP2_is {x : R} {v u : V} {s : List O} (h : x = some (.ret [v, u] s)) (hv : noObj v = true) (hu : noObj u = true) (K KP : V → R) : callP2 x K KP = K (.tup [v, u]) := by
  rw [h]
  show ck (noObjs [v, u]) _ = _
  rw [show noObjs [v, u] = true by simp [noObjs, hv, hu]]
  rfl
/-- Is there such a code set. -/
def isB (n : Int) : Bool := decide (n ≥ 1) && decide (n ≤ 5)
theorem is_is [Inhabited MXI] (n : Int) : RUN 30 [.int .i64 n] [] = some (.ret [.bool (isB n)] []) := by
  apply codeset_is_of
  unfold codeset_is isB
  have J0 : ∀ b, codeset_is.J0 XC b = some (.ret [.bool b] []) := fun b => codeset_is.J0_of b _ rfl
  rw [J0, J0, cond_ret]
  cases decide (n ≥ 1) <;> rfl
theorem ris_is [Inhabited MXI] (n : Int) : RUN 32 [.int .i64 n] [] = some (.ret [.bool (isB n)] []) := by
  apply ref12_is_of
  unfold ref12_is isB
  have J0 : ∀ b, ref12_is.J0 XC b = some (.ret [.bool b] []) := fun b => ref12_is.J0_of b _ rfl
  rw [J0, J0, cond_ret]
  cases decide (n ≥ 1) <;> rfl
/-- Does a number stand in a list. -/
def memB (L : List Int) (x : Int) : Bool := L.any (· == x)
theorem index_loop [Inhabited MXI] {m : Bool} {L : List Int} {x : Int} (hl : L.length < 1000000) : ∀ (k i : Nat), i + k = L.length →
    ∃ r : Int, slices_Index_int_int.L0 XC m (ints L) x L.length i = some (.ret [.int .i64 r] []) ∧ decide (r ≥ 0) = memB (L.drop i) x
  | 0, i, h => by
    refine ⟨-1, ?_, ?_⟩
    · apply slices_Index_int_int.L0_of
      unfold slices_Index_int_int.L0T
      rw [show decide ((i : Int) < L.length) = false by simp; omega]
      rfl
    · rw [List.drop_of_length_le (by omega)]; rfl
  | k + 1, i, h => by
    have hi : i < L.length := by omega
    obtain ⟨r, h1, h2⟩ := index_loop (m := m) (x := x) hl k (i + 1) (by omega)
    have hd : memB (L.drop i) x = ((L[i] == x) || memB (L.drop (i + 1)) x) := by unfold memB; rw [List.drop_eq_getElem_cons hi, List.any_cons]
    cases e : (x == L[i]) with
    | true =>
      refine ⟨i, ?_, ?_⟩
      · apply slices_Index_int_int.L0_of
        unfold slices_Index_int_int.L0T
        rw [show decide ((i : Int) < L.length) = true by simp; omega, cond_true, idx_ints (List.getElem?_eq_getElem hi)]
        simp only [V.cells, asCons, asInt, asNil, if_true]
        rw [e]
        rfl
      · rw [hd, show (L[i] == x) = true from beq_iff_eq.2 (beq_iff_eq.1 e).symm]; simp
    | false =>
      refine ⟨r, ?_, ?_⟩
      · apply slices_Index_int_int.L0_of
        unfold slices_Index_int_int.L0T
        rw [show decide ((i : Int) < L.length) = true by simp; omega, cond_true, idx_ints (List.getElem?_eq_getElem hi)]
        simp only [V.cells, asCons, asInt, asNil, if_true]
        rw [e, wrap1 (show i < 1000000000 by omega)]
        exact h1
      · rw [hd, show (L[i] == x) = false from beq_eq_false_iff_ne.2 (Ne.symm (beq_eq_false_iff_ne.1 e)), Bool.false_or]; exact h2
theorem contains_is [Inhabited MXI] {m : Bool} {L : List Int} (x : Int) (hl : L.length < 1000000) : RUN 31 [.list m 1 (ints L), .int .i64 x] [] = some (.ret [.bool (memB L x)] []) := by
  obtain ⟨r, h1, h2⟩ := index_loop (m := m) (x := x) hl L.length 0 (by omega)
  have hx : RUN 43 [.list m 1 (ints L), .int .i64 x] [] = some (.ret [.int .i64 r] []) := by
    apply slices_Index_int_int_of
    unfold slices_Index_int_int
    rw [len_ints]
    exact h1
  apply slices_Contains_int_int_of
  unfold slices_Contains_int_int
  rw [show noObjs [V.list m 1 (ints L), V.int .i64 x] = true by simp [noObjs, noObj, noObjs_ints], ck_t, callP1_is hx rfl]
  simp only [asInt, if_true]
  rw [h2]
  rfl
theorem has_loop [Inhabited MXI] {m : Bool} {L : List Int} {x : Int} (hl : L.length < 1000000) : ∀ (k i : Nat), i + k = L.length →
    ref12_has.L0 XC x m (ints L) L.length i = some (.ret [.bool (memB (L.drop i) x)] [])
  | 0, i, h => by
    apply ref12_has.L0_of
    unfold ref12_has.L0T
    rw [show decide ((i : Int) < L.length) = false by simp; omega, List.drop_of_length_le (by omega)]
    rfl
  | k + 1, i, h => by
    have hi : i < L.length := by omega
    have ih := has_loop (m := m) (x := x) hl k (i + 1) (by omega)
    have hd : memB (L.drop i) x = ((L[i] == x) || memB (L.drop (i + 1)) x) := by unfold memB; rw [List.drop_eq_getElem_cons hi, List.any_cons]
    apply ref12_has.L0_of
    unfold ref12_has.L0T
    rw [show decide ((i : Int) < L.length) = true by simp; omega, cond_true, idx_ints (List.getElem?_eq_getElem hi)]
    simp only [V.cells, asCons, asInt, asNil, if_true, wrap1 (show i < 1000000000 by omega)]
    rw [ih, hd]
    cases L[i] == x <;> rfl
theorem has_is [Inhabited MXI] {m : Bool} {L : List Int} (x : Int) (hl : L.length < 1000000) : RUN 33 [.list m 1 (ints L), .int .i64 x] [] = some (.ret [.bool (memB L x)] []) := by
  apply ref12_has_of
  unfold ref12_has
  rw [len_ints]
  exact has_loop hl L.length 0 (by omega)
/-- The numbers from a place on are code sets, each other than the first one and those ahead. -/
def okFrom (n : Int) (L : List Int) : Nat → Nat → Bool
  | 0, _ => true
  | k + 1, i => (isB (L.getD i 0) && !(L.getD i 0 == n) && !(memB (L.take i) (L.getD i 0))) && okFrom n L k (i + 1)
def validB (n : Int) (L : List Int) : Bool := okFrom n L L.length 0 && isB n
theorem getD_at {L : List Int} {i : Nat} (hi : i < L.length) : L.getD i 0 = L[i] := by simp [List.getD_eq_getElem?_getD, hi]
theorem valid_loop [Inhabited MXI] {m m2 : Bool} {n : Int} {L : List Int} (hl : L.length < 1000000) : ∀ (k i : Nat), i + k = L.length →
    codeset_Valid.L0 XC n m (ints L) m2 (ints L) L.length i = some (.ret [.bool (okFrom n L k i && isB n)] [])
  | 0, i, h => by
    apply codeset_Valid.L0_of
    unfold codeset_Valid.L0T
    rw [show decide ((i : Int) < L.length) = false by simp; omega, cond_false, callP1_is (is_is n) rfl]
    simp only [asBool, okFrom, Bool.true_and]
    rfl
  | k + 1, i, h => by
    have hi : i < L.length := by omega
    have ih := valid_loop (m := m) (m2 := m2) (n := n) hl k (i + 1) (by omega)
    have J1 : ∀ b, codeset_Valid.J1 XC n m (ints L) m2 (ints L) L.length i b = some (.ret [.bool (!b && (okFrom n L k (i + 1) && isB n))] []) := by
      intro b
      apply codeset_Valid.J1_of
      unfold codeset_Valid.J1T
      rw [wrap1 (show i < 1000000000 by omega), ih]
      cases b <;> rfl
    apply codeset_Valid.L0_of
    unfold codeset_Valid.L0T
    rw [show decide ((i : Int) < L.length) = true by simp; omega, cond_true, idx_ints (List.getElem?_eq_getElem hi)]
    simp only [V.cells, asCons, asInt, asNil, if_true]
    rw [callP1_is (is_is _) rfl]
    simp only [asBool, J1, len_ints, take_ints]
    rw [show (decide (0 ≤ (0 : Int)) && (decide ((0 : Int) ≤ (i : Int)) && decide ((i : Int) ≤ (L.length : Int)))) = true by simp; omega, ck_t,
      show noObjs [V.list m 1 (ints (L.take i)), V.int .i64 L[i]] = true by simp [noObjs, noObj, noObjs_ints], ck_t, callP1_is (contains_is _ (by simp; omega)) rfl]
    simp only [okFrom, getD_at hi]
    cases isB L[i] <;> cases L[i] == n <;> cases memB (L.take i) L[i] <;> simp
theorem valid_is [Inhabited MXI] {m : Bool} {n : Int} {L : List Int} (hl : L.length < 1000000) : RUN 17 [.agg [.int .i64 n, .list m 1 (ints L)]] [] = some (.ret [.bool (validB n L)] []) := by
  apply codeset_Valid_of
  unfold codeset_Valid
  rw [len_ints]
  exact valid_loop hl L.length 0 (by omega)
theorem rvalid_loop [Inhabited MXI] {m m2 : Bool} {n : Int} {L : List Int} (hl : L.length < 1000000) : ∀ (k i : Nat), i + k = L.length →
    ref12_Valid.L1 XC n m (ints L) m2 (ints L) L.length i = some (.ret [.bool (okFrom n L k i)] [])
  | 0, i, h => by
    apply ref12_Valid.L1_of
    unfold ref12_Valid.L1T
    rw [show decide ((i : Int) < L.length) = false by simp; omega]
    rfl
  | k + 1, i, h => by
    have hi : i < L.length := by omega
    have ih := rvalid_loop (m := m) (m2 := m2) (n := n) hl k (i + 1) (by omega)
    have J2 : ∀ b, ref12_Valid.J2 XC n m (ints L) m2 (ints L) L.length i b = some (.ret [.bool (!b && okFrom n L k (i + 1))] []) := by
      intro b
      apply ref12_Valid.J2_of
      unfold ref12_Valid.J2T
      rw [wrap1 (show i < 1000000000 by omega), ih]
      cases b <;> rfl
    apply ref12_Valid.L1_of
    unfold ref12_Valid.L1T
    rw [show decide ((i : Int) < L.length) = true by simp; omega, cond_true, idx_ints (List.getElem?_eq_getElem hi)]
    simp only [V.cells, asCons, asInt, asNil, if_true]
    rw [callP1_is (ris_is _) rfl]
    simp only [asBool, J2, len_ints, take_ints]
    rw [show (decide (0 ≤ (0 : Int)) && (decide ((0 : Int) ≤ (i : Int)) && decide ((i : Int) ≤ (L.length : Int)))) = true by simp; omega, ck_t,
      show noObjs [V.list m 1 (ints (L.take i)), V.int .i64 L[i]] = true by simp [noObjs, noObj, noObjs_ints], ck_t, callP1_is (has_is _ (by simp; omega)) rfl]
    simp only [okFrom, getD_at hi]
    cases isB L[i] <;> cases L[i] == n <;> cases memB (L.take i) L[i] <;> simp
/-- Different numbers from 1 to k are at most k. -/
theorem diff_len : ∀ (k : Nat) (L : List Int), L.Nodup → (∀ x ∈ L, 1 ≤ x ∧ x ≤ k) → L.length ≤ k
  | 0, L, _, h => by
    cases L with
    | nil => simp
    | cons a r => have := h a (by simp); omega
  | k + 1, L, hn, h => by
    have h1 : (L.filter (· != ((k + 1 : Nat) : Int))).length ≤ k := diff_len k _ (hn.sublist List.filter_sublist) fun x hx => by
      have := List.mem_filter.1 hx
      have h3 := h x this.1
      have h4 : x ≠ ((k + 1 : Nat) : Int) := by simpa using this.2
      omega
    have h2 : L.length ≤ (L.filter (· != ((k + 1 : Nat) : Int))).length + 1 := by
      clear h h1
      induction L with
      | nil => simp
      | cons a r ih =>
        have hr := ih (List.nodup_cons.1 hn).2
        by_cases e : a = ((k + 1 : Nat) : Int)
        · subst e
          have : r.filter (· != ((k + 1 : Nat) : Int)) = r := List.filter_eq_self.2 fun x hx => by
            have := (List.nodup_cons.1 hn).1
            simp only [bne_iff_ne, ne_eq]
            rintro rfl
            exact this hx
          rw [List.filter_cons_of_neg (by simp), this]
          simp
        · rw [List.filter_cons_of_pos (by simpa using e)]
          simp only [List.length_cons]; omega
    omega
theorem okFrom_len {n : Int} {L : List Int} (h : okFrom n L L.length 0 = true) : L.length ≤ 5 := by
  have key : ∀ (k i : Nat), i + k = L.length → okFrom n L k i = true → (L.take i).Nodup → (∀ x ∈ L.take i, 1 ≤ x ∧ x ≤ 5) → L.Nodup ∧ ∀ x ∈ L, 1 ≤ x ∧ x ≤ 5 := by
    intro k
    induction k with
    | zero =>
      intro i hi _ h1 h2
      rw [List.take_of_length_le (by omega)] at h1 h2
      exact ⟨h1, h2⟩
    | succ k ih =>
      intro i hi ho h1 h2
      have hlt : i < L.length := by omega
      simp only [okFrom, getD_at hlt, Bool.and_eq_true, Bool.not_eq_true'] at ho
      obtain ⟨⟨⟨o1, _⟩, o2⟩, o3⟩ := ho
      have hm : L[i] ∉ L.take i := by
        intro hx
        have : memB (L.take i) L[i] = true := List.any_eq_true.2 ⟨_, hx, by simp⟩
        rw [this] at o2; cases o2
      have o1' : 1 ≤ L[i] ∧ L[i] ≤ 5 := by simpa [isB] using o1
      have ht : L.take (i + 1) = L.take i ++ [L[i]] := by rw [List.take_succ_eq_append_getElem hlt]
      refine ih (i + 1) (by omega) o3 ?_ ?_
      · rw [ht, List.nodup_append]
        exact ⟨h1, by simp, fun a ha b hb => by simp at hb; subst hb; rintro rfl; exact hm ha⟩
      · rw [ht]
        intro x hx
        rcases List.mem_append.1 hx with hx | hx
        · exact h2 x hx
        · simp at hx; subst hx; exact o1'
  have := key L.length 0 (by omega) h (by simp) (by simp)
  exact diff_len 5 L this.1 (by simpa using this.2)
theorem rvalid_is [Inhabited MXI] {m : Bool} {n : Int} {L : List Int} (hl : L.length < 1000000) : RUN 18 [.agg [.int .i64 n, .list m 1 (ints L)]] [] = some (.ret [.bool (validB n L)] []) := by
  have J0 : ∀ b, ref12_Valid.J0 XC n m (ints L) b = some (.ret [.bool (!b && okFrom n L L.length 0)] []) := by
    intro b
    apply ref12_Valid.J0_of
    unfold ref12_Valid.J0T
    have hv : ref12_Valid.L1 XC n m (ints L) m (ints L) L.length 0 = _ := rvalid_loop (m := m) (m2 := m) (n := n) hl L.length 0 (by omega)
    rw [len_ints, hv]
    cases b <;> rfl
  apply ref12_Valid_of
  unfold ref12_Valid
  rw [callP1_is (ris_is n) rfl]
  simp only [asBool, J0, len_ints]
  rw [cond_ret]
  refine ret_eq ?_
  unfold validB
  cases ho : okFrom n L L.length 0 with
  | false => cases isB n <;> simp
  | true =>
    have := okFrom_len ho
    cases isB n
    · rfl
    · simp; omega
theorem same_loop [Inhabited MXI] {m m2 : Bool} {L : List Int} (hl : L.length < 1000000) : ∀ (k i : Nat), i + k = L.length →
    ref12_SameInts.L0 XC m (ints L) m2 (ints L) L.length i = some (.ret [.bool true] [])
  | 0, i, h => by
    apply ref12_SameInts.L0_of
    unfold ref12_SameInts.L0T
    rw [show decide ((i : Int) < L.length) = false by simp; omega]
    rfl
  | k + 1, i, h => by
    have hi : i < L.length := by omega
    apply ref12_SameInts.L0_of
    unfold ref12_SameInts.L0T
    rw [show decide ((i : Int) < L.length) = true by simp; omega, cond_true, idx_ints (List.getElem?_eq_getElem hi)]
    simp only [V.cells, asCons, asInt, asNil, if_true]
    rw [idx_ints (List.getElem?_eq_getElem hi)]
    simp only [if_true, bne_self_eq_false, cond_false, wrap1 (show i < 1000000000 by omega)]
    exact same_loop hl k (i + 1) (by omega)
theorem same_is [Inhabited MXI] {m m2 : Bool} {L : List Int} (hl : L.length < 1000000) : RUN 19 [.list m 1 (ints L), .list m2 1 (ints L)] [] = some (.ret [.bool true] []) := by
  apply ref12_SameInts_of
  unfold ref12_SameInts
  rw [bne_self_eq_false, cond_false, len_ints]
  exact same_loop hl L.length 0 (by omega)
theorem codes_is [Inhabited MXI] {m m2 : Bool} {n : Int} {L : List Int} (hl : L.length < 1000000) : RUN 11 [.agg [.int .i64 n, .list m 1 (ints L)], .agg [.int .i64 n, .list m2 1 (ints L)]] [] = some (.ret [.bool true] []) := by
  have J0 : ∀ b, ref12_SameCodes.J0 XC b = some (.ret [.bool b] []) := fun b => ref12_SameCodes.J0_of b _ rfl
  apply ref12_SameCodes_of
  unfold ref12_SameCodes
  rw [beq_self_eq_true, cond_true, show noObjs [V.list m 1 (ints L), V.list m2 1 (ints L)] = true by simp [noObjs, noObj, noObjs_ints], ck_t, callP1_is (same_is hl) rfl]
  simp only [asBool, J0]
end Go.Proofs.YtphjfhglapkmhaaDoor.E
set_option maxRecDepth 100000
namespace Go.Proofs.YtphjfhglapkmhaaDoor.E
open Go
/-- A code set's name. -/
def nameAt (n : Int) : ByteArray := bif (n == (1 : Int)) then (⟨#[97, 115, 99, 105, 105]⟩ : ByteArray) else bif (n == (2 : Int)) then (⟨#[108, 97, 116, 105, 110]⟩ : ByteArray) else bif (n == (3 : Int)) then (⟨#[117, 116, 102, 56]⟩ : ByteArray) else bif (n == (4 : Int)) then (⟨#[117, 116, 102, 49, 54]⟩ : ByteArray) else bif (n == (5 : Int)) then (⟨#[103, 114, 101, 101, 107]⟩ : ByteArray) else (⟨#[]⟩ : ByteArray)
theorem cond_str {b : Bool} {x y : ByteArray} {s : List O} : (bif b then (some (.ret [.str x] s) : R) else some (.ret [.str y] s)) = some (.ret [.str (bif b then x else y)] s) := by cases b <;> rfl
theorem name_is [Inhabited MXI] (n : Int) : RUN 24 [.int .i64 n] [] = some (.ret [.str (nameAt n)] []) := by
  apply ref12_Name_of
  unfold ref12_Name nameAt retR
  simp only [cond_str]
/-- The number of a name, and the error: from a number on. -/
def setFrom (s : ByteArray) : Nat → Nat → Int × Int
  | 0, _ => (0, 5)
  | k + 1, i => bif (nameAt (i : Int)).toList == s.toList then ((i : Int), 0) else setFrom s k (i + 1)
def setOf (s : ByteArray) : Int × Int := setFrom s 5 1
theorem set_loop [Inhabited MXI] {s : ByteArray} : ∀ (k i : Nat), i + k = 5 → codeset_Set.L0 XC s (nameAt 1) (nameAt 2) (nameAt 3) (nameAt 4) (nameAt 5) i = some (.ret [.int .i64 (setFrom s k (i + 1)).1, .int .i64 (setFrom s k (i + 1)).2] [])
  | 0, i, h => by
    apply codeset_Set.L0_of
    unfold codeset_Set.L0T
    rw [show decide ((i : Int) < 5) = false by simp; omega]
    rfl
  | k + 1, i, h => by
    have ih := set_loop (s := s) k (i + 1) (by omega)
    have hi : ∀ K : V → R, idxK [V.str (nameAt 1), V.str (nameAt 2), V.str (nameAt 3), V.str (nameAt 4), V.str (nameAt 5)] (i : Int) K = K (.str (nameAt ((i + 1 : Nat) : Int))) := by
      intro K
      match i, h with
      | 0, _ => rfl
      | 1, _ => rfl
      | 2, _ => rfl
      | 3, _ => rfl
      | 4, _ => rfl
      | n + 5, h => omega
    apply codeset_Set.L0_of
    unfold codeset_Set.L0T
    rw [show decide ((i : Int) < 5) = true by simp; omega, cond_true, ck_t, hi]
    simp only [goodK, goods, V.good, Bool.and_self, cond_true, asStr, wrap1 (show i < 1000000000 by omega), setFrom]
    rw [ih]
    cases (nameAt ((i + 1 : Nat) : Int)).toList == s.toList <;> rfl
theorem names_is [Inhabited MXI] : RUN 23 [] [] = some (.ret [.agg [.str (nameAt 1), .str (nameAt 2), .str (nameAt 3), .str (nameAt 4), .str (nameAt 5)]] []) := codeset_names_of _ rfl
theorem set_is [Inhabited MXI] (s : ByteArray) : RUN 9 [.str s] [] = some (.ret [.int .i64 (setOf s).1, .int .i64 (setOf s).2] []) := by
  apply codeset_Set_of
  unfold codeset_Set
  rw [callP1_is names_is rfl]
  simp only [asAgg, asCons, asStr, asNil]
  exact set_loop 5 0 rfl
theorem setFrom_zero (s : ByteArray) : ∀ (k i : Nat), (setFrom s k i).2 = 0 ∨ setFrom s k i = (0, 5)
  | 0, _ => .inr rfl
  | k + 1, i => by
    unfold setFrom
    cases (nameAt (i : Int)).toList == s.toList with
    | true => exact .inl rfl
    | false => exact setFrom_zero s k (i + 1)
def sN (w : ByteArray) : Int := (setOf w).1
def okW (w : ByteArray) : Bool := (setOf w).2 == 0
theorem sN_bad {w : ByteArray} (h : okW w = false) : sN w = 0 := by
  rcases setFrom_zero w 5 1 with e | e
  · unfold okW setOf at h; rw [e] at h; cases h
  · unfold sN setOf; rw [e]
theorem okFrom_all {n : Int} {L : List Int} : ∀ (k i : Nat), i + k = L.length → okFrom n L k i = true → ∀ x ∈ L.drop i, isB x = true
  | 0, i, h, _, x, hx => by rw [List.drop_of_length_le (by omega)] at hx; cases hx
  | k + 1, i, h, ho, x, hx => by
    have hi : i < L.length := by omega
    simp only [okFrom, getD_at hi, Bool.and_eq_true] at ho
    rw [List.drop_eq_getElem_cons hi] at hx
    rcases List.mem_cons.1 hx with rfl | hx
    · exact ho.1.1.1
    · exact okFrom_all k (i + 1) (by omega) ho.2 x hx
theorem validB_zero {n : Int} {L : List Int} (h : n = 0 ∨ 0 ∈ L) : validB n L = false := by
  rw [Bool.eq_false_iff]
  intro hv
  simp only [validB, Bool.and_eq_true] at hv
  rcases h with rfl | h
  · exact absurd hv.2 (by decide)
  · exact absurd (okFrom_all L.length 0 (by omega) hv.1 0 (by simpa using h)) (by decide)
/-- What Parse answers. -/
def badO : Out := .ret [.agg [.int .i64 0, .list false 1 []], .int .i64 2] []
def finO (n : Int) (m : Bool) (L : List Int) : Out := bif validB n L then .ret [.agg [.int .i64 n, .list m 1 (ints L)], .int .i64 0] [] else badO
theorem idx_strs {W : List ByteArray} {i : Nat} (h : i < W.length) (K : V → R) : idxK (cstrs W) (i : Int) K = K (.str W[i]) := by
  unfold idxK cstrs
  rw [if_pos (by omega), show ((i : Int)).toNat = i from rfl, List.getElem?_map, List.getElem?_eq_getElem h]
  rfl
theorem len_strs (W : List ByteArray) : (cstrs W).length = W.length := by simp [cstrs]
theorem apK_one {es : List V} {v : V} {K : R} (h : es.length < 1000000) : apK es [v] 8 K = K := by
  unfold apK
  have h1 : Nat.ble ((es.length + [v].length) * 8) 140737488355328 = true := Nat.ble_eq_true_of_le (by simp only [List.length_singleton]; omega)
  have h2 : Nat.ble (es.length + [v].length) 140737488355328 = true := Nat.ble_eq_true_of_le (by simp only [List.length_singleton]; omega)
  rw [h1, h2]
  rfl
theorem ints_snoc (L : List Int) (x : Int) : ints L ++ [V.int .i64 x] = ints (L ++ [x]) := by simp [ints]
theorem fin_is [Inhabited MXI] {m : Bool} {n : Int} {L : List Int} (hl : L.length < 1000000) (KP : V → R) :
    ck (noObjs [(V.agg [(V.int .i64 n), (V.list m 1 (ints L))])]) (callP1 (RUN 17 [(V.agg [(V.int .i64 n), (V.list m 1 (ints L))])] []) (fun v133 => asBool v133 fun b135 => bif (!b135) then retR [(V.agg [(V.int .i64 0), (V.list false 1 [])]), (V.int .i64 2)] [] else retR [(V.agg [(V.int .i64 n), (V.list m 1 (ints L))]), (V.int .i64 0)] []) KP) = some (finO n m L) := by
  rw [show noObjs [(V.agg [(V.int .i64 n), (V.list m 1 (ints L))])] = true by simp [noObjs, noObj, noObjs_ints], ck_t, callP1_is (valid_is hl) rfl]
  unfold finO asBool
  cases validB n L <;> rfl
theorem rfin_is [Inhabited MXI] {m : Bool} {n : Int} {L : List Int} (hl : L.length < 1000000) (KP : V → R) :
    ck (noObjs [(V.agg [(V.int .i64 n), (V.list m 1 (ints L))])]) (callP1 (RUN 18 [(V.agg [(V.int .i64 n), (V.list m 1 (ints L))])] []) (fun v133 => asBool v133 fun b135 => bif (!b135) then retR [(V.agg [(V.int .i64 0), (V.list false 1 [])]), (V.int .i64 2)] [] else retR [(V.agg [(V.int .i64 n), (V.list m 1 (ints L))]), (V.int .i64 0)] []) KP) = some (finO n m L) := by
  rw [show noObjs [(V.agg [(V.int .i64 n), (V.list m 1 (ints L))])] = true by simp [noObjs, noObj, noObjs_ints], ck_t, callP1_is (rvalid_is hl) rfl]
  unfold finO asBool
  cases validB n L <;> rfl
theorem parse_loop [Inhabited MXI] {m : Bool} {W : List ByteArray} {es : List V} {n : Int} (hW : W.length < 1000000) : ∀ (k i : Nat), i + k = W.length → 1 ≤ i → ∀ (m' : Bool) (L : List Int), L.length < i →
    codeset_Parse.L0 XC m (cstrs W) W.length i es n m' (ints L) = some (finO n (m' || decide (0 < k)) (L ++ (W.drop i).map sN))
  | 0, i, h, _, m', L, hL => by
    apply codeset_Parse.L0_of
    unfold codeset_Parse.L0T
    rw [show decide ((i : Int) < W.length) = false by simp; omega, cond_false, fin_is (by omega), List.drop_of_length_le (by omega)]
    simp
  | k + 1, i, h, h1, m', L, hL => by
    have hi : i < W.length := by omega
    have ih := parse_loop (m := m) (es := es) (n := n) hW k (i + 1) (by omega) (by omega) true (L ++ [sN W[i]]) (by simp; omega)
    apply codeset_Parse.L0_of
    unfold codeset_Parse.L0T
    rw [show decide ((i : Int) < W.length) = true by simp; omega, cond_true, idx_strs hi]
    simp only [V.cells, asCons, asStr, asNil]
    rw [callP2_is (set_is _) rfl rfl]
    simp only [asTup, asInt, if_true]
    rw [show ((i : Int) == 0) = false by simp; omega, cond_false, apK_one (by rw [len_ints]; omega), ints_snoc]
    apply codeset_Parse.J1_of
    unfold codeset_Parse.J1T
    rw [wrap1 (show i < 1000000000 by omega), show (m' || !([V.int .i64 (setOf W[i]).1]).isEmpty) = true by simp]
    refine ih.trans ?_
    rw [List.drop_eq_getElem_cons hi, show decide (0 < k + 1) = true by simp, Bool.or_true, Bool.true_or, List.append_assoc]
    rfl
theorem pieces_len (a : ByteArray) : (pieces a).length = Lib.countB a comma + 1 := Lib.splitB_all comma (by decide) 0 _ a rfl
theorem pieces_lt {a : ByteArray} (h : a.size ≤ 2000) : (pieces a).length < 1000000 := by
  have := Lib.countB_le comma (by decide) a.size a (Nat.le_refl _)
  rw [pieces_len]; omega
theorem split_is [Inhabited MXI] {a : ByteArray} (h : a.size ≤ 2000) : RUN 22 [.str a, .str (⟨#[44]⟩ : ByteArray)] [] = some (.ret [.list true 1 (cstrs (pieces a))] []) := by
  refine run_given (G := GG) (g := gSplit) rfl ?_
  show (if a.size < 4294967281 ∧ comma = comma then some (Out.ret [V.list true 1 (cstrs (pieces a))] []) else none) = _
  rw [if_pos ⟨by omega, rfl⟩]
theorem noObjs_strs (W : List ByteArray) : noObjs (cstrs W) = true := by
  induction W with
  | nil => rfl
  | cons a l ih => simp only [cstrs, List.map_cons] at ih ⊢; simp only [noObjs, noObj, ih, Bool.and_self]
/-- What Parse answers of a text. -/
def parseO (a : ByteArray) : Out := finO (sN ((pieces a).headD ⟨#[]⟩)) (decide (1 < (pieces a).length)) ((pieces a).tail.map sN)
theorem parse_is [Inhabited MXI] {a : ByteArray} (h : a.size ≤ 2000) : RUN 7 [.str a] [] = some (parseO a) := by
  have hp := pieces_len a
  have hl := pieces_lt h
  apply codeset_Parse_of
  unfold codeset_Parse
  rw [show decide ((a.size : Int) > 65536) = false by simp; omega, cond_false, callP1_is (split_is h) (by simp [noObj, noObjs_strs])]
  simp only [asList, if_true, len_strs]
  unfold parseO
  generalize pieces a = W at hp hl ⊢
  match W, hp with
  | w :: W, hp =>
    have ih := parse_loop (m := true) (es := []) (n := sN w) hl W.length 1 (by simp; omega) (by omega) false [] (by simp)
    apply codeset_Parse.L0_of
    unfold codeset_Parse.L0T
    rw [show decide ((0 : Int) < ((w :: W).length : Nat)) = true by simp, cond_true]
    rw [show idxK (cstrs (w :: W)) 0 = fun K => K (V.str w) from funext fun K => idx_strs (W := w :: W) (i := 0) (by simp) K]
    simp only [V.cells, asCons, asStr, asNil]
    rw [callP2_is (set_is _) rfl rfl]
    simp only [asTup, asInt, if_true]
    rw [show ((0 : Int) == 0) = true from rfl, cond_true]
    apply codeset_Parse.J1_of
    unfold codeset_Parse.J1T
    refine ih.trans ?_
    simp
theorem aw [Inhabited MXI] : RUN 6 [] [] = some (.ret [.bool true] []) := run_fuel (n := 40) (by kernel_rfl)
end Go.Proofs.YtphjfhglapkmhaaDoor.E
set_option maxRecDepth 100000
namespace Go.Proofs.YtphjfhglapkmhaaDoor.E
open Go
/-! Splitting what was joined. -/
theorem index_not : ∀ (x : List UInt8), (44 : UInt8) ∉ x → Lib.index x [44] = -1
  | [], _ => rfl
  | b :: l, h => by
    have hb : ¬ (44 : UInt8) = b := fun e => h (by simp [e])
    have ih := index_not l fun e => h (by simp [e])
    unfold Lib.index
    rw [ih]
    simp [List.isPrefixOf, hb]
theorem index_at : ∀ (x r : List UInt8), (44 : UInt8) ∉ x → Lib.index (x ++ 44 :: r) [44] = x.length
  | [], r, _ => by simp [Lib.index, List.isPrefixOf]
  | b :: l, r, h => by
    have hb : ¬ (44 : UInt8) = b := fun e => h (by simp [e])
    have ih := index_at l r fun e => h (by simp [e])
    show Lib.index (b :: (l ++ 44 :: r)) [44] = _
    unfold Lib.index
    rw [ih]
    have : ¬ (((l.length : Nat) : Int) == -1) = true := fun e => by have := beq_iff_eq.1 e; omega
    rw [if_neg (by simp [List.isPrefixOf, hb]), if_neg this]
    simp
theorem split_join : ∀ (r : List (List UInt8)) (x : List UInt8), (∀ y ∈ x :: r, (44 : UInt8) ∉ y) →
    Lib.splitK [44] 0 (Lib.count (Lib.join (x :: r) [44]) [44]) (Lib.join (x :: r) [44]) = x :: r
  | [], x, h => by
    have hx : Lib.index x [44] = -1 := index_not x (h x (by simp))
    rw [Lib.join_one, Lib.count_miss hx]
    rfl
  | y :: r, x, h => by
    have ih := split_join r y fun z hz => h z (List.mem_cons_of_mem _ hz)
    have e : Lib.join (x :: y :: r) [44] = x ++ 44 :: Lib.join (y :: r) [44] := by
      rw [Lib.join_cons, Lib.join_cons]
      simp [Lib.joinTail]
    have hi : Lib.index (x ++ 44 :: Lib.join (y :: r) [44]) [44] = (x.length : Nat) := index_at x _ (h x (by simp))
    have hd : (x ++ 44 :: Lib.join (y :: r) [44]).drop (x.length + [(44 : UInt8)].length) = Lib.join (y :: r) [44] := by
      rw [show x.length + [(44 : UInt8)].length = x.length + 1 from rfl, ← List.drop_drop, List.drop_left]
      rfl
    rw [e, Lib.count_hit (by simp) hi, hd, Nat.add_comm]
    unfold Lib.splitK
    have hm : ¬ (Lib.index (x ++ 44 :: Lib.join (y :: r) [44]) [44] == -1) = true := fun e => by have := beq_iff_eq.1 e; omega
    rw [if_neg hm, hi, show ((x.length : Nat) : Int).toNat = x.length from rfl, hd, ih, Nat.add_zero, List.take_left]
theorem data_inj {a b : ByteArray} (h : a.data.toList = b.data.toList) : a = b := by
  cases a; cases b
  simpa using h
theorem map_inj {l m : List ByteArray} (h : l.map (·.data.toList) = m.map (·.data.toList)) : l = m := by
  induction l generalizing m with
  | nil => cases m with
    | nil => rfl
    | cons b m => cases h
  | cons a l ih => cases m with
    | nil => cases h
    | cons b m =>
      simp only [List.map_cons, List.cons.injEq] at h
      rw [data_inj h.1, ih h.2]
/-- The text of names, joined. -/
def joinB (W : List ByteArray) : ByteArray := ⟨(Lib.join (W.map (·.data.toList)) comma.data.toList).toArray⟩
theorem pieces_join {w : ByteArray} {W : List ByteArray} (h : ∀ y ∈ w :: W, (44 : UInt8) ∉ y.data.toList) : pieces (joinB (w :: W)) = w :: W := by
  refine map_inj ?_
  unfold pieces
  rw [Lib.splitB_data]
  show Lib.splitK [44] 0 (Lib.count (joinB (w :: W)).data.toList [44]) (joinB (w :: W)).data.toList = _
  have e : (joinB (w :: W)).data.toList = Lib.join (w.data.toList :: W.map (·.data.toList)) [44] := by unfold joinB comma; simp
  rw [e]
  refine split_join _ _ fun y hy => ?_
  rw [← List.map_cons (f := fun x : ByteArray => x.data.toList)] at hy
  obtain ⟨z, hz, rfl⟩ := List.mem_map.1 hy
  exact h z hz
/-! Names of code sets. -/
theorem isB_cases {n : Int} (h : isB n = true) : n = 1 ∨ n = 2 ∨ n = 3 ∨ n = 4 ∨ n = 5 := by
  simp [isB] at h; omega
theorem nameAt_in (n : Int) : nameAt n = nameAt 1 ∨ nameAt n = nameAt 2 ∨ nameAt n = nameAt 3 ∨ nameAt n = nameAt 4 ∨ nameAt n = nameAt 5 ∨ nameAt n = ⟨#[]⟩ := by
  unfold nameAt
  cases n == 1
  · cases n == 2
    · cases n == 3
      · cases n == 4
        · cases n == 5
          · exact .inr (.inr (.inr (.inr (.inr rfl))))
          · exact .inr (.inr (.inr (.inr (.inl rfl))))
        · exact .inr (.inr (.inr (.inl rfl)))
      · exact .inr (.inr (.inl rfl))
    · exact .inr (.inl rfl)
  · exact .inl rfl
theorem nameAt_not (n : Int) : (44 : UInt8) ∉ (nameAt n).data.toList := by
  rcases nameAt_in n with e | e | e | e | e | e <;> rw [e] <;> decide
theorem nameAt_len (n : Int) : (nameAt n).data.toList.length ≤ 5 := by
  rcases nameAt_in n with e | e | e | e | e | e <;> rw [e] <;> decide
theorem set_name {n : Int} (h : isB n = true) : setOf (nameAt n) = (n, 0) := by
  rcases isB_cases h with rfl | rfl | rfl | rfl | rfl <;> kernel_rfl
theorem cname_is [Inhabited MXI] (n : Int) : RUN 28 [.int .i64 n] [] = some (.ret [.str (nameAt n)] []) := by
  apply codeset_Name_of
  unfold codeset_Name
  rw [callP1_is (is_is n) rfl]
  simp only [asBool]
  cases h : isB n with
  | false =>
    have e : nameAt n = ⟨#[]⟩ := by
      unfold nameAt
      have : ∀ m : Int, 1 ≤ m → m ≤ 5 → (n == m) = false := by
        intro m h1 h2
        rw [beq_eq_false_iff_ne]
        rintro rfl
        simp [isB] at h; omega
      rw [this 1 (by omega) (by omega), this 2 (by omega) (by omega), this 3 (by omega) (by omega), this 4 (by omega) (by omega), this 5 (by omega) (by omega)]
      rfl
    rw [e]
    rfl
  | true =>
    rw [Bool.not_true, cond_false, callP1_is names_is rfl]
    simp only [asAgg, asCons, asStr, asNil]
    rcases isB_cases h with rfl | rfl | rfl | rfl | rfl <;> rfl
/-! Format. -/
theorem apK_16 {es : List V} {v : V} {K : R} (h : es.length < 1000000) : apK es [v] 16 K = K := by
  unfold apK
  have h1 : Nat.ble ((es.length + [v].length) * 16) 140737488355328 = true := Nat.ble_eq_true_of_le (by simp only [List.length_singleton]; omega)
  have h2 : Nat.ble (es.length + [v].length) 140737488355328 = true := Nat.ble_eq_true_of_le (by simp only [List.length_singleton]; omega)
  rw [h1, h2]
  rfl
theorem strsOf_strs (W : List ByteArray) : strsOf (cstrs W) = some W := by
  induction W with
  | nil => rfl
  | cons a l ih =>
    show (strsOf (cstrs l)).map (a :: ·) = _
    rw [ih]; rfl
theorem join_len {W : List ByteArray} (h : ∀ w ∈ W, w.data.toList.length ≤ 5) : (Lib.join (W.map (·.data.toList)) comma.data.toList).length ≤ 6 * W.length := by
  have key : ∀ W : List ByteArray, (∀ w ∈ W, w.data.toList.length ≤ 5) → (Lib.joinTail comma.data.toList (W.map (·.data.toList))).length ≤ 6 * W.length := by
    intro W h
    induction W with
    | nil => simp [Lib.joinTail]
    | cons w W ih =>
      have := ih fun x hx => h x (by simp [hx])
      have hw := h w (by simp)
      simp only [Lib.joinTail, List.map_cons, List.flatten_cons, List.length_append, List.length_cons] at this ⊢
      have : comma.data.toList.length = 1 := rfl
      omega
  cases W with
  | nil => simp [Lib.join_nil]
  | cons w W =>
    rw [List.map_cons, Lib.join_cons, List.length_append]
    have h1 := key W fun x hx => h x (by simp [hx])
    have h2 := h w (by simp)
    simp only [List.length_cons]; omega
theorem join_is [Inhabited MXI] {W : List ByteArray} (hl : W.length < 1000000) (h : ∀ w ∈ W, w.data.toList.length ≤ 5) : RUN 29 [.list true 1 (cstrs W), .str (⟨#[44]⟩ : ByteArray)] [] = some (.ret [.str (joinB W)] []) := by
  refine run_given (G := GG) (g := gJoin) rfl ?_
  show (strsOf (cstrs W)).bind _ = _
  rw [strsOf_strs]
  have := join_len h
  show (if W.length ≤ 140737488355328 ∧ (Lib.join (W.map (·.data.toList)) comma.data.toList).length ≤ 140737488355328 then some (Out.ret [.str (joinB W)] []) else none) = _
  rw [if_pos ⟨by omega, by omega⟩]
theorem strs_snoc (W : List ByteArray) (x : ByteArray) : cstrs W ++ [V.str x] = cstrs (W ++ [x]) := by simp [cstrs]
theorem format_loop [Inhabited MXI] {m : Bool} {L : List Int} (hl : L.length < 1000) : ∀ (k i : Nat), i + k = L.length → ∀ W : List ByteArray, W.length ≤ i + 1 → (∀ w ∈ W, w.data.toList.length ≤ 5) →
    codeset_Format.L0 XC (cstrs W) m (ints L) L.length i = some (.ret [.str (joinB (W ++ (L.drop i).map nameAt))] [])
  | 0, i, h, W, hW, h5 => by
    apply codeset_Format.L0_of
    unfold codeset_Format.L0T
    rw [show decide ((i : Int) < L.length) = false by simp; omega, cond_false, show noObjs [V.list true 1 (cstrs W), V.str (⟨#[44]⟩ : ByteArray)] = true by simp [noObjs, noObj, noObjs_strs], ck_t, callP1_is (join_is (by omega) h5) rfl, List.drop_of_length_le (by omega)]
    simp only [asStr, List.map_nil, List.append_nil]
    rfl
  | k + 1, i, h, W, hW, h5 => by
    have hi : i < L.length := by omega
    have ih := format_loop (m := m) hl k (i + 1) (by omega) (W ++ [nameAt L[i]]) (by simp; omega) (by
      intro w hw
      rcases List.mem_append.1 hw with hw | hw
      · exact h5 w hw
      · simp at hw; subst hw; exact nameAt_len _)
    apply codeset_Format.L0_of
    unfold codeset_Format.L0T
    rw [show decide ((i : Int) < L.length) = true by simp; omega, cond_true, idx_ints (List.getElem?_eq_getElem hi)]
    simp only [V.cells, asCons, asInt, asNil, if_true]
    rw [callP1_is (cname_is _) rfl]
    simp only [asStr]
    rw [apK_16 (by rw [len_strs]; omega), strs_snoc, wrap1 (show i < 1000000000 by omega)]
    refine ih.trans ?_
    rw [List.drop_eq_getElem_cons hi, List.append_assoc]
    rfl
def formB (n : Int) (L : List Int) : ByteArray := bif validB n L then joinB (nameAt n :: L.map nameAt) else ⟨#[]⟩
theorem format_is [Inhabited MXI] {m : Bool} {n : Int} {L : List Int} (hl : L.length < 1000) : RUN 16 [.agg [.int .i64 n, .list m 1 (ints L)]] [] = some (.ret [.str (formB n L)] []) := by
  apply codeset_Format_of
  unfold codeset_Format formB
  rw [show noObjs [(V.agg [(V.int .i64 n), (V.list m 1 (ints L))])] = true by simp [noObjs, noObj, noObjs_ints], ck_t, callP1_is (valid_is (by omega)) rfl]
  simp only [asBool]
  cases validB n L with
  | false => rfl
  | true =>
    rw [Bool.not_true, cond_false, callP1_is (cname_is _) rfl]
    simp only [asStr, len_ints, cond_true]
    refine (format_loop (m := m) hl L.length 0 (by omega) [nameAt n] (by simp) (by simpa using nameAt_len n)).trans ?_
    rfl
theorem joinB_snoc (W : List ByteArray) (hW : W ≠ []) (x : ByteArray) : joinB (W ++ [x]) = joinB W ++ ((⟨#[44]⟩ : ByteArray) ++ x) := by
  obtain ⟨w, W, rfl⟩ := List.exists_cons_of_ne_nil hW
  refine data_inj ?_
  unfold joinB
  rw [List.cons_append, List.map_cons, List.map_cons, Lib.join_cons, Lib.join_cons]
  simp [Lib.joinTail, ByteArray.data_append, comma]
theorem rformat_loop [Inhabited MXI] {m : Bool} {L : List Int} (hl : L.length < 1000) : ∀ (k i : Nat), i + k = L.length → ∀ W : List ByteArray, W ≠ [] → W.length ≤ i + 1 → (∀ w ∈ W, w.data.toList.length ≤ 5) →
    ref12_Format.L0 XC (joinB W) m (ints L) L.length i = some (.ret [.str (joinB (W ++ (L.drop i).map nameAt))] [])
  | 0, i, h, W, hne, hW, h5 => by
    apply ref12_Format.L0_of
    unfold ref12_Format.L0T
    rw [show decide ((i : Int) < L.length) = false by simp; omega, List.drop_of_length_le (by omega)]
    simp only [List.map_nil, List.append_nil, cond_false]
    rfl
  | k + 1, i, h, W, hne, hW, h5 => by
    have hi : i < L.length := by omega
    have h5' : ∀ w ∈ W ++ [nameAt L[i]], w.data.toList.length ≤ 5 := by
      intro w hw
      rcases List.mem_append.1 hw with hw | hw
      · exact h5 w hw
      · simp at hw; subst hw; exact nameAt_len _
    have ih := rformat_loop (m := m) hl k (i + 1) (by omega) (W ++ [nameAt L[i]]) (by simp) (by simp; omega) h5'
    have hs1 : (joinB W).size ≤ 6 * W.length := by
      have := join_len h5
      rw [← ByteArray.size_data]
      simpa [joinB] using this
    have hs2 : (nameAt L[i]).size ≤ 5 := by
      have := nameAt_len L[i]
      rw [← ByteArray.size_data]
      simpa using this
    apply ref12_Format.L0_of
    unfold ref12_Format.L0T
    rw [show decide ((i : Int) < L.length) = true by simp; omega, cond_true, idx_ints (List.getElem?_eq_getElem hi)]
    simp only [V.cells, asCons, asInt, asNil, if_true]
    rw [callP1_is (name_is _) rfl]
    simp only [asStr]
    have e1 : (⟨#[44]⟩ : ByteArray).size = 1 := rfl
    rw [Nat.ble_eq_true_of_le (show (⟨#[44]⟩ : ByteArray).size + (nameAt L[i]).size ≤ 9223372036854775807 by rw [e1]; omega), ck_t,
      Nat.ble_eq_true_of_le (show (joinB W).size + ((⟨#[44]⟩ : ByteArray) ++ nameAt L[i]).size ≤ 9223372036854775807 by rw [ByteArray.size_append, e1]; omega), ck_t, wrap1 (show i < 1000000000 by omega), ← joinB_snoc W hne]
    refine ih.trans ?_
    rw [List.drop_eq_getElem_cons hi, List.append_assoc]
    rfl
theorem rformat_is [Inhabited MXI] {m : Bool} {n : Int} {L : List Int} (hl : L.length < 1000) : RUN 20 [.agg [.int .i64 n, .list m 1 (ints L)]] [] = some (.ret [.str (formB n L)] []) := by
  apply ref12_Format_of
  unfold ref12_Format formB
  rw [show noObjs [(V.agg [(V.int .i64 n), (V.list m 1 (ints L))])] = true by simp [noObjs, noObj, noObjs_ints], ck_t, callP1_is (rvalid_is (by omega)) rfl]
  simp only [asBool]
  cases validB n L with
  | false => rfl
  | true =>
    rw [Bool.not_true, cond_false, callP1_is (name_is _) rfl]
    simp only [asStr, len_ints, cond_true]
    have e : nameAt n = joinB [nameAt n] := data_inj (by unfold joinB; simp [Lib.join_one])
    have := rformat_loop (m := m) hl L.length 0 (by omega) [nameAt n] (by simp) (by simp) (by simpa using nameAt_len n)
    rw [← e] at this
    exact this
end Go.Proofs.YtphjfhglapkmhaaDoor.E
set_option maxRecDepth 100000
namespace Go.Proofs.YtphjfhglapkmhaaDoor.E
open Go
theorem callP0_is {x : R} {s : List O} (h : x = some (.ret [] s)) (K KP : V → R) : callP0 x K KP = K (.tup []) := by
  rw [h]
  rfl
def speakB (n : Int) (L : List Int) (x : Int) : Bool := bif n == x then true else memB L x
theorem speaks_is [Inhabited MXI] {m : Bool} {n : Int} {L : List Int} (x : Int) (hl : L.length < 1000000) : RUN 25 [.agg [.int .i64 n, .list m 1 (ints L)], .int .i64 x] [] = some (.ret [.bool (speakB n L x)] []) := by
  have J0 : ∀ b, codeset_speaks.J0 XC b = some (.ret [.bool b] []) := fun b => codeset_speaks.J0_of b _ rfl
  apply codeset_speaks_of
  unfold codeset_speaks speakB
  rw [show noObjs [V.list m 1 (ints L), V.int .i64 x] = true by simp [noObjs, noObj, noObjs_ints], ck_t, callP1_is (contains_is x hl) rfl]
  simp only [asBool, J0, cond_ret]
theorem rspeaks_is [Inhabited MXI] {m : Bool} {n : Int} {L : List Int} (x : Int) (hl : L.length < 1000000) : RUN 26 [.agg [.int .i64 n, .list m 1 (ints L)], .int .i64 x] [] = some (.ret [.bool (speakB n L x)] []) := by
  have J0 : ∀ b, ref12_speaks.J0 XC b = some (.ret [.bool b] []) := fun b => ref12_speaks.J0_of b _ rfl
  apply ref12_speaks_of
  unfold ref12_speaks speakB
  rw [show noObjs [V.list m 1 (ints L), V.int .i64 x] = true by simp [noObjs, noObj, noObjs_ints], ck_t, callP1_is (has_is x hl) rfl]
  simp only [asBool, J0, cond_ret]
theorem noObjs_codes {n : Int} {m : Bool} {L : List Int} {x : Int} : noObjs [(V.agg [(V.int .i64 n), (V.list m 1 (ints L))]), (V.int .i64 x)] = true := by simp [noObjs, noObj, noObjs_ints]
theorem noObjs_code {n : Int} {m : Bool} {L : List Int} : noObjs [(V.agg [(V.int .i64 n), (V.list m 1 (ints L))])] = true := by simp [noObjs, noObj, noObjs_ints]
theorem noObjs_two {n n' : Int} {m m' : Bool} {L L' : List Int} : noObjs [(V.agg [(V.int .i64 n), (V.list m 1 (ints L))]), (V.agg [(V.int .i64 n'), (V.list m' 1 (ints L'))])] = true := by simp [noObjs, noObj, noObjs_ints]
/-! Choose. -/
def pickFrom (n n' : Int) (L L' : List Int) : Nat → Nat → Int × Int
  | 0, _ => bif !((n == 4) == (n' == 4)) then (0, 8) else (3, 0)
  | k + 1, i => bif speakB n' L' (L.getD i 0) then (L.getD i 0, 0) else pickFrom n n' L L' k (i + 1)
def chooseOf (n n' : Int) (L L' : List Int) : Int × Int :=
  bif validB n L && validB n' L' then bif speakB n L n' then (n', 0) else bif speakB n' L' n then (n, 0) else pickFrom n n' L L' L.length 0 else (0, 1)
def two (p : Int × Int) : R := some (.ret [.int .i64 p.1, .int .i64 p.2] [])
theorem choose_loop [Inhabited MXI] {m m' m2 : Bool} {n n' : Int} {L L' : List Int} (hl : L.length < 1000000) (hl' : L'.length < 1000000) : ∀ (k i : Nat), i + k = L.length →
    codeset_Choose.L1 XC n m (ints L) n' m' (ints L') m2 (ints L) L.length i = some (.ret [.int .i64 (pickFrom n n' L L' k i).1, .int .i64 (pickFrom n n' L L' k i).2] [])
  | 0, i, h => by
    apply codeset_Choose.L1_of
    unfold codeset_Choose.L1T
    rw [show decide ((i : Int) < L.length) = false by simp; omega]
    unfold pickFrom
    cases !((n == 4) == (n' == 4)) <;> rfl
  | k + 1, i, h => by
    have hi : i < L.length := by omega
    have ih := choose_loop (m := m) (m' := m') (m2 := m2) (n := n) (n' := n') hl hl' k (i + 1) (by omega)
    apply codeset_Choose.L1_of
    unfold codeset_Choose.L1T
    rw [show decide ((i : Int) < L.length) = true by simp; omega, cond_true, idx_ints (List.getElem?_eq_getElem hi)]
    simp only [V.cells, asCons, asInt, asNil, if_true]
    rw [noObjs_codes, ck_t, callP1_is (speaks_is _ hl') rfl]
    simp only [asBool, pickFrom, getD_at hi, wrap1 (show i < 1000000000 by omega)]
    rw [ih]
    cases speakB n' L' L[i] <;> rfl
theorem rchoose_loop [Inhabited MXI] {m m' m2 : Bool} {n n' : Int} {L L' : List Int} (hl : L.length < 1000000) (hl' : L'.length < 1000000) : ∀ (k i : Nat), i + k = L.length →
    ref12_Choose.L1 XC n m (ints L) n' m' (ints L') m2 (ints L) L.length i = some (.ret [.int .i64 (pickFrom n n' L L' k i).1, .int .i64 (pickFrom n n' L L' k i).2] [])
  | 0, i, h => by
    apply ref12_Choose.L1_of
    unfold ref12_Choose.L1T
    rw [show decide ((i : Int) < L.length) = false by simp; omega]
    unfold pickFrom
    cases !((n == 4) == (n' == 4)) <;> rfl
  | k + 1, i, h => by
    have hi : i < L.length := by omega
    have ih := rchoose_loop (m := m) (m' := m') (m2 := m2) (n := n) (n' := n') hl hl' k (i + 1) (by omega)
    apply ref12_Choose.L1_of
    unfold ref12_Choose.L1T
    rw [show decide ((i : Int) < L.length) = true by simp; omega, cond_true, idx_ints (List.getElem?_eq_getElem hi)]
    simp only [V.cells, asCons, asInt, asNil, if_true]
    rw [noObjs_codes, ck_t, callP1_is (rspeaks_is _ hl') rfl]
    simp only [asBool, pickFrom, getD_at hi, wrap1 (show i < 1000000000 by omega)]
    rw [ih]
    cases speakB n' L' L[i] <;> rfl
def midOf (b : Bool) (n n' : Int) (L L' : List Int) : Int × Int := bif b then (0, 1) else bif speakB n L n' then (n', 0) else bif speakB n' L' n then (n, 0) else pickFrom n n' L L' L.length 0
theorem choose_is [Inhabited MXI] {m m' : Bool} {n n' : Int} {L L' : List Int} (hl : L.length < 1000000) (hl' : L'.length < 1000000) :
    RUN 12 [.agg [.int .i64 n, .list m 1 (ints L)], .agg [.int .i64 n', .list m' 1 (ints L')]] [] = some (.ret [.int .i64 (chooseOf n n' L L').1, .int .i64 (chooseOf n n' L L').2] []) := by
  have J0 : ∀ b, codeset_Choose.J0 XC n m (ints L) n' m' (ints L') b = some (.ret [.int .i64 (midOf b n n' L L').1, .int .i64 (midOf b n n' L L').2] []) := by
    intro b
    have hloop : codeset_Choose.L1 XC n m (ints L) n' m' (ints L') m (ints L) L.length 0 = _ := choose_loop (m := m) (m' := m') (m2 := m) (n := n) (n' := n') hl hl' L.length 0 (by omega)
    apply codeset_Choose.J0_of
    unfold codeset_Choose.J0T midOf
    rw [noObjs_codes, ck_t, callP1_is (speaks_is _ hl) rfl]
    simp only [asBool]
    rw [noObjs_codes, ck_t, callP1_is (speaks_is _ hl') rfl]
    simp only [len_ints]
    rw [hloop]
    cases b <;> cases speakB n L n' <;> cases speakB n' L' n <;> rfl
  apply codeset_Choose_of
  unfold codeset_Choose chooseOf
  rw [noObjs_code, ck_t, callP1_is (valid_is hl) rfl]
  simp only [asBool]
  rw [noObjs_code, ck_t, callP1_is (valid_is hl') rfl]
  simp only [J0, midOf]
  cases validB n L <;> cases validB n' L' <;> rfl
theorem rchoose_is [Inhabited MXI] {m m' : Bool} {n n' : Int} {L L' : List Int} (hl : L.length < 1000000) (hl' : L'.length < 1000000) :
    RUN 13 [.agg [.int .i64 n, .list m 1 (ints L)], .agg [.int .i64 n', .list m' 1 (ints L')]] [] = some (.ret [.int .i64 (chooseOf n n' L L').1, .int .i64 (chooseOf n n' L L').2] []) := by
  have J0 : ∀ b, ref12_Choose.J0 XC n m (ints L) n' m' (ints L') b = some (.ret [.int .i64 (midOf b n n' L L').1, .int .i64 (midOf b n n' L L').2] []) := by
    intro b
    have hloop : ref12_Choose.L1 XC n m (ints L) n' m' (ints L') m (ints L) L.length 0 = _ := rchoose_loop (m := m) (m' := m') (m2 := m) (n := n) (n' := n') hl hl' L.length 0 (by omega)
    apply ref12_Choose.J0_of
    unfold ref12_Choose.J0T midOf
    rw [noObjs_codes, ck_t, callP1_is (rspeaks_is _ hl) rfl]
    simp only [asBool]
    rw [noObjs_codes, ck_t, callP1_is (rspeaks_is _ hl') rfl]
    simp only [len_ints]
    rw [hloop]
    cases b <;> cases speakB n L n' <;> cases speakB n' L' n <;> rfl
  apply ref12_Choose_of
  unfold ref12_Choose chooseOf
  rw [noObjs_code, ck_t, callP1_is (rvalid_is hl) rfl]
  simp only [asBool]
  rw [noObjs_code, ck_t, callP1_is (rvalid_is hl') rfl]
  simp only [J0, midOf]
  cases validB n L <;> cases validB n' L' <;> rfl
/-! Common. -/
def comFrom (n n' : Int) (L L' : List Int) : Nat → Nat → List Int
  | 0, _ => []
  | k + 1, i => bif (bif speakB n L i then speakB n' L' i else false) then (i : Int) :: comFrom n n' L L' k (i + 1) else comFrom n n' L L' k (i + 1)
def comOf (n n' : Int) (L L' : List Int) : List Int := comFrom n n' L L' 5 1
theorem comFrom_len (n n' : Int) (L L' : List Int) : ∀ (k i : Nat), (comFrom n n' L L' k i).length ≤ k
  | 0, _ => by simp [comFrom]
  | k + 1, i => by
    have := comFrom_len n n' L L' k (i + 1)
    unfold comFrom
    cases (bif speakB n L i then speakB n' L' i else false)
    · simp only [cond_false]; omega
    · simp only [cond_true, List.length_cons]; omega
theorem comFrom_mem {n n' : Int} {L L' : List Int} {x : Int} (h1 : speakB n L x = true) (h2 : speakB n' L' x = true) : ∀ (k i : Nat), (i : Int) ≤ x → x < i + k → x ∈ comFrom n n' L L' k i
  | 0, i, a, b => by omega
  | k + 1, i, a, b => by
    unfold comFrom
    by_cases e : x = i
    · subst e
      rw [h1, h2]
      simp
    · have := comFrom_mem (n := n) (n' := n') h1 h2 k (i + 1) (by omega) (by omega)
      cases (bif speakB n L i then speakB n' L' i else false)
      · exact this
      · exact List.mem_cons_of_mem _ this
/-- What sort.Ints does to a list in which some of the numbers from 1 to 5 stand: nothing. -/
def pickL (b1 b2 b3 b4 b5 : Bool) : List Int := (bif b1 then [1] else []) ++ ((bif b2 then [2] else []) ++ ((bif b3 then [3] else []) ++ ((bif b4 then [4] else []) ++ (bif b5 then [5] else []))))
theorem sort_pick [Inhabited MXI] (b1 b2 b3 b4 b5 : Bool) : RUN 27 [.list (!(pickL b1 b2 b3 b4 b5).isEmpty) 1 (ints (pickL b1 b2 b3 b4 b5))] [] = some (.ret [] []) := by
  cases b1 <;> cases b2 <;> cases b3 <;> cases b4 <;> cases b5 <;> exact run_fuel (n := 60) (by kernel_rfl)
theorem com_pick (n n' : Int) (L L' : List Int) : ∃ b1 b2 b3 b4 b5, comOf n n' L L' = pickL b1 b2 b3 b4 b5 := by
  refine ⟨(bif speakB n L ((1 : Nat) : Int) then speakB n' L' ((1 : Nat) : Int) else false), (bif speakB n L ((2 : Nat) : Int) then speakB n' L' ((2 : Nat) : Int) else false), (bif speakB n L ((3 : Nat) : Int) then speakB n' L' ((3 : Nat) : Int) else false), (bif speakB n L ((4 : Nat) : Int) then speakB n' L' ((4 : Nat) : Int) else false), (bif speakB n L ((5 : Nat) : Int) then speakB n' L' ((5 : Nat) : Int) else false), ?_⟩
  unfold comOf
  simp only [comFrom]
  generalize (bif speakB n L ((1 : Nat) : Int) then speakB n' L' ((1 : Nat) : Int) else false) = b1
  generalize (bif speakB n L ((1 + 1 : Nat) : Int) then speakB n' L' ((1 + 1 : Nat) : Int) else false) = b2
  generalize (bif speakB n L ((1 + 1 + 1 : Nat) : Int) then speakB n' L' ((1 + 1 + 1 : Nat) : Int) else false) = b3
  generalize (bif speakB n L ((1 + 1 + 1 + 1 : Nat) : Int) then speakB n' L' ((1 + 1 + 1 + 1 : Nat) : Int) else false) = b4
  generalize (bif speakB n L ((1 + 1 + 1 + 1 + 1 : Nat) : Int) then speakB n' L' ((1 + 1 + 1 + 1 + 1 : Nat) : Int) else false) = b5
  cases b1 <;> cases b2 <;> cases b3 <;> cases b4 <;> cases b5 <;> rfl
theorem com_sort [Inhabited MXI] (n n' : Int) (L L' : List Int) : RUN 27 [.list (!(comOf n n' L L').isEmpty) 1 (ints (comOf n n' L L'))] [] = some (.ret [] []) := by
  obtain ⟨b1, b2, b3, b4, b5, h⟩ := com_pick n n' L L'
  rw [h]
  exact sort_pick b1 b2 b3 b4 b5
theorem common_loop [Inhabited MXI] {m m' : Bool} {n n' : Int} {L L' : List Int} (hl : L.length < 1000000) (hl' : L'.length < 1000000) : ∀ (k i : Nat), i + k = 6 → ∀ (mm : Bool) (O : List Int), O.length < i → 
    codeset_Common.L1 XC n m (ints L) n' m' (ints L') mm (ints O) i = some (.ret [.list (mm || !(comFrom n n' L L' k i).isEmpty) 1 (ints (O ++ comFrom n n' L L' k i)), .int .i64 0] [])
  | 0, i, h, mm, O, hO => by
    apply codeset_Common.L1_of
    unfold codeset_Common.L1T
    rw [show decide ((i : Int) ≤ 5) = false by simp; omega]
    simp only [comFrom, List.isEmpty_nil, Bool.not_true, Bool.or_false, List.append_nil]
    rfl
  | k + 1, i, h, mm, O, hO => by
    have hJ3 : ∀ (m2 : Bool) (O2 : List Int) (o : Out), codeset_Common.L1 XC n m (ints L) n' m' (ints L') m2 (ints O2) ((i + 1 : Nat) : Int) = some o → codeset_Common.J3 XC n m (ints L) n' m' (ints L') m2 (ints O2) i = some o := by
      intro m2 O2 o ho
      apply codeset_Common.J3_of
      unfold codeset_Common.J3T
      rw [wrap1 (show i < 1000000000 by omega)]
      exact ho
    have hJ2 : ∀ b, (bif speakB n L i then speakB n' L' i else false) = b → codeset_Common.J2 XC n m (ints L) n' m' (ints L') mm (ints O) i b = some (.ret [.list (mm || !(comFrom n n' L L' (k + 1) i).isEmpty) 1 (ints (O ++ comFrom n n' L L' (k + 1) i)), .int .i64 0] []) := by
      intro b hb
      apply codeset_Common.J2_of
      unfold codeset_Common.J2T
      rw [show comFrom n n' L L' (k + 1) i = bif b then (i : Int) :: comFrom n n' L L' k (i + 1) else comFrom n n' L L' k (i + 1) by rw [← hb]; rfl]
      cases b with
      | false => exact hJ3 mm O _ (common_loop hl hl' k (i + 1) (by omega) mm O (by omega))
      | true =>
        rw [cond_true, apK_one (by rw [len_ints]; omega), ints_snoc]
        refine hJ3 _ _ _ ?_
        rw [show (mm || !([V.int .i64 (i : Int)]).isEmpty) = true by simp]
        refine (common_loop hl hl' k (i + 1) (by omega) true (O ++ [(i : Int)]) (by simp; omega)).trans ?_
        simp
    apply codeset_Common.L1_of
    unfold codeset_Common.L1T
    rw [show decide ((i : Int) ≤ 5) = true by simp; omega, cond_true, noObjs_codes, ck_t, callP1_is (speaks_is _ hl) rfl]
    simp only [asBool]
    rw [noObjs_codes, ck_t, callP1_is (speaks_is _ hl') rfl]
    simp only
    cases e1 : speakB n L i with
    | false => rw [cond_false]; exact hJ2 false (by rw [e1, cond_false])
    | true => rw [cond_true]; exact hJ2 (speakB n' L' i) (by rw [e1, cond_true])
theorem rcommon_loop [Inhabited MXI] {m m' : Bool} {n n' : Int} {L L' : List Int} (hl : L.length < 1000000) (hl' : L'.length < 1000000) : ∀ (k i : Nat), i + k = 6 → ∀ (mm : Bool) (O : List Int), O.length < i → RUN 27 [.list (mm || !(comFrom n n' L L' k i).isEmpty) 1 (ints (O ++ comFrom n n' L L' k i))] [] = some (.ret [] []) →
    ref12_Common.L1 XC n m (ints L) n' m' (ints L') mm (ints O) i = some (.ret [.list (mm || !(comFrom n n' L L' k i).isEmpty) 1 (ints (O ++ comFrom n n' L L' k i)), .int .i64 0] [])
  | 0, i, h, mm, O, hO, ha => by
    apply ref12_Common.L1_of
    unfold ref12_Common.L1T
    rw [show decide ((i : Int) ≤ 5) = false by simp; omega]
    simp only [comFrom, List.isEmpty_nil, Bool.not_true, Bool.or_false, List.append_nil]
    rw [cond_false, show noObjs [V.list mm 1 (ints O)] = true by simp [noObjs, noObj, noObjs_ints], ck_t, callP0_is (by simpa [comFrom] using ha)]
    rfl
  | k + 1, i, h, mm, O, hO, ha => by
    have hJ3 : ∀ (m2 : Bool) (O2 : List Int) (o : Out), ref12_Common.L1 XC n m (ints L) n' m' (ints L') m2 (ints O2) ((i + 1 : Nat) : Int) = some o → ref12_Common.J3 XC n m (ints L) n' m' (ints L') m2 (ints O2) i = some o := by
      intro m2 O2 o ho
      apply ref12_Common.J3_of
      unfold ref12_Common.J3T
      rw [wrap1 (show i < 1000000000 by omega)]
      exact ho
    have hJ2 : ∀ b, (bif speakB n L i then speakB n' L' i else false) = b → ref12_Common.J2 XC n m (ints L) n' m' (ints L') mm (ints O) i b = some (.ret [.list (mm || !(comFrom n n' L L' (k + 1) i).isEmpty) 1 (ints (O ++ comFrom n n' L L' (k + 1) i)), .int .i64 0] []) := by
      intro b hb
      apply ref12_Common.J2_of
      unfold ref12_Common.J2T
      rw [show comFrom n n' L L' (k + 1) i = bif b then (i : Int) :: comFrom n n' L L' k (i + 1) else comFrom n n' L L' k (i + 1) by rw [← hb]; rfl]
      rw [show comFrom n n' L L' (k + 1) i = bif b then (i : Int) :: comFrom n n' L L' k (i + 1) else comFrom n n' L L' k (i + 1) by rw [← hb]; rfl] at ha
      cases b with
      | false => exact hJ3 mm O _ (rcommon_loop hl hl' k (i + 1) (by omega) mm O (by omega) ha)
      | true =>
        rw [cond_true, apK_one (by rw [len_ints]; omega), ints_snoc]
        refine hJ3 _ _ _ ?_
        rw [show (mm || !([V.int .i64 (i : Int)]).isEmpty) = true by simp]
        refine (rcommon_loop hl hl' k (i + 1) (by omega) true (O ++ [(i : Int)]) (by simp; omega) (by simpa using ha)).trans ?_
        simp
    apply ref12_Common.L1_of
    unfold ref12_Common.L1T
    rw [show decide ((i : Int) ≤ 5) = true by simp; omega, cond_true, noObjs_codes, ck_t, callP1_is (rspeaks_is _ hl) rfl]
    simp only [asBool]
    rw [noObjs_codes, ck_t, callP1_is (rspeaks_is _ hl') rfl]
    simp only
    cases e1 : speakB n L i with
    | false => rw [cond_false]; exact hJ2 false (by rw [e1, cond_false])
    | true => rw [cond_true]; exact hJ2 (speakB n' L' i) (by rw [e1, cond_true])
def comO (n n' : Int) (L L' : List Int) : Out := bif validB n L && validB n' L' then .ret [.list (!(comOf n n' L L').isEmpty) 1 (ints (comOf n n' L L')), .int .i64 0] [] else .ret [.list false 1 (ints []), .int .i64 1] []
theorem common_is [Inhabited MXI] {m m' : Bool} {n n' : Int} {L L' : List Int} (hl : L.length < 1000000) (hl' : L'.length < 1000000) :
    RUN 14 [.agg [.int .i64 n, .list m 1 (ints L)], .agg [.int .i64 n', .list m' 1 (ints L')]] [] = some (comO n n' L L') := by
  have J0 : ∀ b, codeset_Common.J0 XC n m (ints L) n' m' (ints L') b = some (bif b then .ret [.list false 1 (ints []), .int .i64 1] [] else .ret [.list (!(comOf n n' L L').isEmpty) 1 (ints (comOf n n' L L')), .int .i64 0] []) := by
    intro b
    have hloop : codeset_Common.L1 XC n m (ints L) n' m' (ints L') false (ints []) 1 = _ := common_loop (m := m) (m' := m') (n := n) (n' := n') hl hl' 5 1 rfl false [] (by simp)
    apply codeset_Common.J0_of
    unfold codeset_Common.J0T
    cases b with
    | true => rfl
    | false => exact hloop
  apply codeset_Common_of
  unfold codeset_Common comO
  rw [noObjs_code, ck_t, callP1_is (valid_is hl) rfl]
  simp only [asBool]
  rw [noObjs_code, ck_t, callP1_is (valid_is hl') rfl]
  simp only [J0]
  cases validB n L <;> cases validB n' L' <;> rfl
theorem rcommon_is [Inhabited MXI] {m m' : Bool} {n n' : Int} {L L' : List Int} (hl : L.length < 1000000) (hl' : L'.length < 1000000) :
    RUN 15 [.agg [.int .i64 n, .list m 1 (ints L)], .agg [.int .i64 n', .list m' 1 (ints L')]] [] = some (comO n n' L L') := by
  have J0 : ∀ b, ref12_Common.J0 XC n m (ints L) n' m' (ints L') b = some (bif b then .ret [.list false 1 (ints []), .int .i64 1] [] else .ret [.list (!(comOf n n' L L').isEmpty) 1 (ints (comOf n n' L L')), .int .i64 0] []) := by
    intro b
    have hloop : ref12_Common.L1 XC n m (ints L) n' m' (ints L') false (ints []) 1 = _ := rcommon_loop (m := m) (m' := m') (n := n) (n' := n') hl hl' 5 1 rfl false [] (by simp) (com_sort n n' L L')
    apply ref12_Common.J0_of
    unfold ref12_Common.J0T
    cases b with
    | true => rfl
    | false => exact hloop
  apply ref12_Common_of
  unfold ref12_Common comO
  rw [noObjs_code, ck_t, callP1_is (rvalid_is hl) rfl]
  simp only [asBool]
  rw [noObjs_code, ck_t, callP1_is (rvalid_is hl') rfl]
  simp only [J0]
  cases validB n L <;> cases validB n' L' <;> rfl
end Go.Proofs.YtphjfhglapkmhaaDoor.E
set_option maxRecDepth 100000
namespace Go.Proofs.YtphjfhglapkmhaaDoor.E
open Go
theorem memB_of {L : List Int} {x : Int} (h : x ∈ L) : memB L x = true := List.any_eq_true.2 ⟨_, h, by simp⟩
theorem memB_mem {L : List Int} {x : Int} (h : memB L x = true) : x ∈ L := by
  obtain ⟨y, h1, h2⟩ := List.any_eq_true.1 h
  rw [← beq_iff_eq.1 h2]; exact h1
theorem com_mem {n n' : Int} {L L' : List Int} {x : Int} (hb : isB x = true) (h1 : speakB n L x = true) (h2 : speakB n' L' x = true) : memB (comOf n n' L L') x = true := by
  have : 1 ≤ x ∧ x ≤ 5 := by simpa [isB] using hb
  exact memB_of (comFrom_mem h1 h2 5 1 (by omega) (by omega))
theorem pick_spoken {n n' : Int} {L L' : List Int} : ∀ (k i : Nat), i + k = L.length → (pickFrom n n' L L' k i).2 = 0 → (pickFrom n n' L L' k i).1 = 3 ∨ ((pickFrom n n' L L' k i).1 ∈ L ∧ speakB n' L' (pickFrom n n' L L' k i).1 = true)
  | 0, i, h, h2 => by
    unfold pickFrom at h2 ⊢
    cases e : (!((n == 4) == (n' == 4))) with
    | true => rw [e] at h2; cases h2
    | false => exact .inl rfl
  | k + 1, i, h, h2 => by
    have hi : i < L.length := by omega
    unfold pickFrom at h2 ⊢
    rw [getD_at hi] at h2 ⊢
    cases e : speakB n' L' L[i] with
    | true => exact .inr ⟨List.getElem_mem hi, e⟩
    | false =>
      rw [e] at h2
      exact pick_spoken k (i + 1) (by omega) h2
theorem choose_spoken {n n' : Int} {L L' : List Int} (hv : validB n L = true) (hv' : validB n' L' = true) (h : (chooseOf n n' L L').2 = 0) :
    ((chooseOf n n' L L').1 == 3 || memB (comOf n n' L L') (chooseOf n n' L L').1) = true ∧ (n = n' → (chooseOf n n' L L').1 = n) := by
  have self : ∀ (a : Int) (A : List Int), speakB a A a = true := fun a A => by unfold speakB; simp
  have hb : isB n = true := by simp only [validB, Bool.and_eq_true] at hv; exact hv.2
  have hb' : isB n' = true := by simp only [validB, Bool.and_eq_true] at hv'; exact hv'.2
  have hall : ∀ x ∈ L, isB x = true := by
    simp only [validB, Bool.and_eq_true] at hv
    simpa using okFrom_all L.length 0 (by omega) hv.1
  unfold chooseOf at h ⊢
  rw [hv, hv'] at h ⊢
  simp only [Bool.and_self, cond_true] at h ⊢
  cases e1 : speakB n L n' with
  | true =>
    simp only [cond_true]
    exact ⟨by rw [com_mem hb' e1 (self _ _)]; simp, fun e => e.symm⟩
  | false =>
    rw [e1] at h
    simp only [cond_false] at h ⊢
    cases e2 : speakB n' L' n with
    | true =>
      simp only [cond_true]
      exact ⟨by rw [com_mem hb (self _ _) e2]; simp, fun _ => trivial⟩
    | false =>
      rw [e2] at h
      simp only [cond_false] at h ⊢
      refine ⟨?_, fun e => ?_⟩
      · rcases pick_spoken L.length 0 (by omega) h with e | ⟨h1, h2⟩
        · rw [e]; rfl
        · rw [com_mem (hall _ h1) (by unfold speakB; rw [memB_of h1]; cases n == _ <;> rfl) h2]; simp
      · subst e
        rw [self] at e1
        cases e1
theorem form_size {n : Int} {L : List Int} (hv : validB n L = true) : (formB n L).size ≤ 2000 := by
  have h5 : L.length ≤ 5 := by simp only [validB, Bool.and_eq_true] at hv; exact okFrom_len hv.1
  unfold formB
  rw [hv, cond_true]
  have := join_len (W := nameAt n :: L.map nameAt) (by
    intro w hw
    rcases List.mem_cons.1 hw with rfl | hw
    · exact nameAt_len _
    · obtain ⟨x, _, rfl⟩ := List.mem_map.1 hw
      exact nameAt_len _)
  rw [← ByteArray.size_data]
  have e : (joinB (nameAt n :: L.map nameAt)).data.size ≤ 6 * (nameAt n :: L.map nameAt).length := by simpa [joinB] using this
  simp only [List.length_cons, List.length_map] at e
  omega
theorem parse_form {n : Int} {L : List Int} (hv : validB n L = true) : ∃ m, parseO (formB n L) = .ret [.agg [.int .i64 n, .list m 1 (ints L)], .int .i64 0] [] := by
  have hb : isB n = true := by simp only [validB, Bool.and_eq_true] at hv; exact hv.2
  have hall : ∀ x ∈ L, isB x = true := by
    have hv := hv
    simp only [validB, Bool.and_eq_true] at hv
    simpa using okFrom_all L.length 0 (by omega) hv.1
  have hp : pieces (formB n L) = nameAt n :: L.map nameAt := by
    unfold formB
    rw [hv, cond_true]
    refine pieces_join fun y hy => ?_
    rcases List.mem_cons.1 hy with rfl | hy
    · exact nameAt_not _
    · obtain ⟨x, _, rfl⟩ := List.mem_map.1 hy
      exact nameAt_not _
  have hn : sN (nameAt n) = n := by unfold sN; rw [set_name hb]
  have hL : (L.map nameAt).map sN = L := by
    rw [List.map_map]
    conv => rhs; rw [← List.map_id L]
    refine List.map_congr_left fun x hx => ?_
    show sN (nameAt x) = x
    unfold sN; rw [set_name (hall x hx)]
  refine ⟨decide (1 < (nameAt n :: L.map nameAt).length), ?_⟩
  unfold parseO
  rw [hp]
  show finO (sN (nameAt n)) _ ((L.map nameAt).map sN) = _
  rw [hn, hL]
  unfold finO
  rw [hv]
  rfl
theorem awake7 [Inhabited MXI] : law12_CodesetChosen.J7 XC = some (.ret [.bool true] []) := by
  apply law12_CodesetChosen.J7_of
  unfold law12_CodesetChosen.J7T
  rw [callP1_is aw rfl]
  rfl
theorem j5 [Inhabited MXI] {m : Bool} {n : Int} {L : List Int} (hl : L.length < 1000) : law12_CodesetChosen.J5 XC n m (ints L) (formB n L) = some (.ret [.bool true] []) := by
  have J6 : law12_CodesetChosen.J6 XC false = some (.ret [.bool true] []) := by
    apply law12_CodesetChosen.J6_of
    unfold law12_CodesetChosen.J6T
    exact awake7
  apply law12_CodesetChosen.J5_of
  unfold law12_CodesetChosen.J5T
  rw [noObjs_code, ck_t, callP1_is (rvalid_is (by omega)) rfl]
  simp only [asBool]
  cases hv : validB n L with
  | false => rw [cond_false]; exact awake7
  | true =>
    obtain ⟨m2, hp⟩ := parse_form hv
    have h7 := (parse_is (form_size hv)).trans (congrArg some hp)
    rw [cond_true, callP2_is h7 (by simp [noObj, noObjs, noObjs_ints]) rfl]
    simp only [asTup, asCons, asAgg, asInt, asNil, asList, if_true]
    rw [show (((0 : Int) != 0)) = false from rfl, cond_false, noObjs_two, ck_t, callP1_is (codes_is (by omega)) rfl]
    simp only [Bool.not_true]
    exact J6
theorem spoken_loop [Inhabited MXI] {m m' mc : Bool} {n n' c : Int} {L L' C : List Int} {s : ByteArray} {o : Out} (hC : C.length < 1000) (hn : n = n' → c = n) (hJ : law12_CodesetChosen.J4 XC n m (ints L) s false = some o) :
    ∀ (k i : Nat), i + k = C.length → ∀ b, (b || memB (C.drop i) c) = true → law12_CodesetChosen.L2 XC n m (ints L) n' m' (ints L') c s b mc (ints C) C.length i = some o
  | 0, i, h, b, hb => by
    rw [List.drop_of_length_le (by omega)] at hb
    have hb : b = true := by simpa [memB] using hb
    subst hb
    apply law12_CodesetChosen.L2_of
    unfold law12_CodesetChosen.L2T
    rw [show decide ((i : Int) < C.length) = false by simp; omega, cond_false, Bool.not_true, cond_false]
    cases e : n == n' with
    | false => rw [cond_false]; exact hJ
    | true =>
      rw [cond_true, hn (beq_iff_eq.1 e), bne_self_eq_false]
      exact hJ
  | k + 1, i, h, b, hb => by
    have hi : i < C.length := by omega
    have hJ3 : ∀ b, (b || memB (C.drop (i + 1)) c) = true → law12_CodesetChosen.J3 XC n m (ints L) n' m' (ints L') c s b mc (ints C) C.length i = some o := by
      intro b hb
      apply law12_CodesetChosen.J3_of
      unfold law12_CodesetChosen.J3T
      rw [wrap1 (show i < 1000000000 by omega)]
      exact spoken_loop hC hn hJ k (i + 1) (by omega) b hb
    have hd : memB (C.drop i) c = ((C[i] == c) || memB (C.drop (i + 1)) c) := by unfold memB; rw [List.drop_eq_getElem_cons hi, List.any_cons]
    apply law12_CodesetChosen.L2_of
    unfold law12_CodesetChosen.L2T
    rw [show decide ((i : Int) < C.length) = true by simp; omega, cond_true, idx_ints (List.getElem?_eq_getElem hi)]
    simp only [V.cells, asCons, asInt, asNil, if_true]
    cases b with
    | true => rw [cond_true]; exact hJ3 true (by simp)
    | false =>
      rw [cond_false]
      exact hJ3 _ (by rw [hd] at hb; simpa using hb)
theorem chosen_is [Inhabited MXI] (n : Int) (m : Bool) (L : List Int) (n' : Int) (m' : Bool) (L' : List Int) :
    RUN 4 [.agg [.int .i64 n, .list m 1 (ints L)], .agg [.int .i64 n', .list m' 1 (ints L')]] [] = some (.ret [.bool true] []) := by
  have J0t : law12_CodesetChosen.J0 XC n m (ints L) n' m' (ints L') true = some (.ret [.bool true] []) := by
    apply law12_CodesetChosen.J0_of
    unfold law12_CodesetChosen.J0T
    rw [cond_true, callP1_is aw rfl]
    rfl
  apply law12_CodesetChosen_of
  unfold law12_CodesetChosen
  rw [len_ints, len_ints]
  cases h1 : decide ((L.length : Int) > 50) with
  | true => rw [cond_true]; exact J0t
  | false =>
  rw [cond_false]
  cases h2 : decide ((L'.length : Int) > 50) with
  | true => exact J0t
  | false =>
  have hl : L.length ≤ 50 := by simp at h1; omega
  have hl' : L'.length ≤ 50 := by simp at h2; omega
  have a1 : L.length < 1000000 := by omega
  have a2 : L'.length < 1000000 := by omega
  obtain ⟨mc, C, e, hc, hC, hsp⟩ : ∃ (mc : Bool) (C : List Int) (e : Int), comO n n' L L' = .ret [.list mc 1 (ints C), .int .i64 e] [] ∧ C.length < 1000 ∧
      ((chooseOf n n' L L').2 = 0 → ((chooseOf n n' L L').1 == 3 || memB C (chooseOf n n' L L').1) = true ∧ (n = n' → (chooseOf n n' L L').1 = n)) := by
    unfold comO
    cases hv : validB n L && validB n' L' with
    | false => exact ⟨false, [], 1, rfl, by simp, fun h => by unfold chooseOf at h; rw [hv] at h; cases h⟩
    | true =>
      have hv2 := hv
      simp only [Bool.and_eq_true] at hv2
      have := comFrom_len n n' L L' 5 1
      exact ⟨_, _, _, rfl, by unfold comOf; omega, fun h => choose_spoken hv2.1 hv2.2 h⟩
  have J4 : law12_CodesetChosen.J4 XC n m (ints L) (formB n L) false = some (.ret [.bool true] []) := by
    apply law12_CodesetChosen.J4_of
    unfold law12_CodesetChosen.J4T
    exact j5 (by omega)
  have J1 : law12_CodesetChosen.J1 XC n m (ints L) n' m' (ints L') (chooseOf n n' L L').1 (chooseOf n n' L L').2 mc (ints C) (formB n L) false = some (.ret [.bool true] []) := by
    apply law12_CodesetChosen.J1_of
    unfold law12_CodesetChosen.J1T
    rw [cond_false, len_ints]
    cases he : (chooseOf n n' L L').2 == 0 with
    | false => rw [cond_false]; exact j5 (by omega)
    | true =>
      rw [cond_true]
      obtain ⟨s1, s2⟩ := hsp (beq_iff_eq.1 he)
      exact spoken_loop hC s2 J4 C.length 0 (by omega) _ (by simpa using s1)
  have hco := common_is (m := m) (m' := m') (n := n) (n' := n') a1 a2
  have hrco := rcommon_is (m := m) (m' := m') (n := n) (n' := n') a1 a2
  rw [hc] at hco hrco
  apply law12_CodesetChosen.J0_of
  unfold law12_CodesetChosen.J0T
  rw [cond_false, noObjs_two, ck_t, callP2_is (choose_is a1 a2) rfl rfl]
  simp only [asTup, asCons, asInt, asNil, asList, if_true]
  rw [ck_t, callP2_is (rchoose_is a1 a2) rfl rfl]
  simp only [if_true]
  rw [ck_t, callP2_is hco (by simp [noObj, noObjs_ints]) rfl]
  simp only [if_true]
  rw [ck_t, callP2_is hrco (by simp [noObj, noObjs_ints]) rfl]
  simp only [if_true]
  rw [noObjs_code, ck_t, callP1_is (format_is (by omega)) rfl]
  simp only [asStr]
  rw [ck_t, callP1_is (valid_is a1) rfl]
  simp only [asBool]
  rw [ck_t, callP1_is (rvalid_is a1) rfl]
  simp only [beq_self_eq_true, Bool.not_true, cond_false, bne_self_eq_false]
  rw [show noObjs [V.list mc 1 (ints C), V.list mc 1 (ints C)] = true by simp [noObjs, noObj, noObjs_ints], ck_t, callP1_is (same_is (by omega)) rfl]
  simp only [Bool.not_true, cond_false]
  rw [ck_t, callP1_is (rformat_is (by omega)) rfl]
  simp only [beq_self_eq_true, Bool.not_true]
  exact J1
end Go.Proofs.YtphjfhglapkmhaaDoor.E
