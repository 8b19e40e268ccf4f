/- It is proved of the functions that CodesetParses calls what they answer, and that its evaluation answers true at any text. No condition. -/
import Derived.Test.YtphjfhglapkmhaaDoorLF
import Derived.IntWalk
import Derived.KernelRfl
import Derived.Lib.SplitLaws
set_option maxRecDepth 100000
namespace Go.Proofs.YtphjfhglapkmhaaDoor.E
open Go
theorem cond_ret {b x y : Bool} {s : List O} : (bif b then (some (.ret [.bool x] s) : R) else some (.ret [.bool y] s)) = some (.ret [.bool (bif b then x else y)] s) := by cases b <;> rfl
theorem ret_eq {x y : Bool} {s : List O} (h : x = y) : (some (.ret [.bool x] s) : R) = some (.ret [.bool y] s) := by rw [h]
theorem ck_t {α : Type} (x : Option α) : ck true x = x := rfl
theorem wrap1 {i : Nat} (h : i < 1000000000) : IntKind.i64.wrap ((i : Int) + 1) = ((i + 1 : Nat) : Int) := by
  rw [IntWalk.i64_in _ (by omega)]; omega
def ints (L : List Int) : List V := L.map fun n => .int .i64 n
theorem idx_ints {L : List Int} {i : Nat} {x : Int} (h : L[i]? = some x) (K : V → R) : idxK (ints L) (i : Int) K = K (.int .i64 x) := by
  unfold idxK ints
  rw [if_pos (by omega), show ((i : Int)).toNat = i from rfl, List.getElem?_map, h]
  rfl
theorem len_ints (L : List Int) : (ints L).length = L.length := by simp [ints]
theorem noObjs_ints (L : List Int) : noObjs (ints L) = true := by
  induction L with
  | nil => rfl
  | cons a l ih => simp only [ints, List.map_cons] at ih ⊢; simp only [noObjs, noObj, ih, Bool.and_self]
theorem take_ints (L : List Int) (i : Nat) : ((ints L).take ((i : Nat) : Int).toNat).drop ((0 : Int)).toNat = ints (L.take i) := by
  simp [ints, List.map_take]
theorem callP1_is {x : R} {v : V} {s : List O} (h : x = some (.ret [v] s)) (hv : noObj v = true) (K KP : V → R) : callP1 x K KP = K v := by
  rw [h]
  show ck (noObjs [v]) _ = _
  rw [show noObjs [v] = true by simp [noObjs, hv]]
  rfl
theorem callP2_is {x : R} {v u : V} {s : List O} (h : x = some (.ret [v, u] s)) (hv : noObj v = true) (hu : noObj u = true) (K KP : V → R) : callP2 x K KP = K (.tup [v, u]) := by
  rw [h]
  show ck (noObjs [v, u]) _ = _
  rw [show noObjs [v, u] = true by simp [noObjs, hv, hu]]
  rfl
/-- Is there such a code set. -/
def isB (n : Int) : Bool := decide (n ≥ 1) && decide (n ≤ 5)
theorem is_is [Inhabited MXI] (n : Int) : RUN 30 [.int .i64 n] [] = some (.ret [.bool (isB n)] []) := by
  apply codeset_is_of
  unfold codeset_is isB
  have J0 : ∀ b, codeset_is.J0 XC b = some (.ret [.bool b] []) := fun b => codeset_is.J0_of b _ rfl
  rw [J0, J0, cond_ret]
  cases decide (n ≥ 1) <;> rfl
theorem ris_is [Inhabited MXI] (n : Int) : RUN 32 [.int .i64 n] [] = some (.ret [.bool (isB n)] []) := by
  apply ref12_is_of
  unfold ref12_is isB
  have J0 : ∀ b, ref12_is.J0 XC b = some (.ret [.bool b] []) := fun b => ref12_is.J0_of b _ rfl
  rw [J0, J0, cond_ret]
  cases decide (n ≥ 1) <;> rfl
/-- Does a number stand in a list. -/
def memB (L : List Int) (x : Int) : Bool := L.any (· == x)
theorem index_loop [Inhabited MXI] {m : Bool} {L : List Int} {x : Int} (hl : L.length < 1000000) : ∀ (k i : Nat), i + k = L.length →
    ∃ r : Int, slices_Index_int_int.L0 XC m (ints L) x L.length i = some (.ret [.int .i64 r] []) ∧ decide (r ≥ 0) = memB (L.drop i) x
  | 0, i, h => by
    refine ⟨-1, ?_, ?_⟩
    · apply slices_Index_int_int.L0_of
      unfold slices_Index_int_int.L0T
      rw [show decide ((i : Int) < L.length) = false by simp; omega]
      rfl
    · rw [List.drop_of_length_le (by omega)]; rfl
  | k + 1, i, h => by
    have hi : i < L.length := by omega
    obtain ⟨r, h1, h2⟩ := index_loop (m := m) (x := x) hl k (i + 1) (by omega)
    have hd : memB (L.drop i) x = ((L[i] == x) || memB (L.drop (i + 1)) x) := by unfold memB; rw [List.drop_eq_getElem_cons hi, List.any_cons]
    cases e : (x == L[i]) with
    | true =>
      refine ⟨i, ?_, ?_⟩
      · apply slices_Index_int_int.L0_of
        unfold slices_Index_int_int.L0T
        rw [show decide ((i : Int) < L.length) = true by simp; omega, cond_true, idx_ints (List.getElem?_eq_getElem hi)]
        simp only [V.cells, asCons, asInt, asNil, if_true]
        rw [e]
        rfl
      · rw [hd, show (L[i] == x) = true from beq_iff_eq.2 (beq_iff_eq.1 e).symm]; simp
    | false =>
      refine ⟨r, ?_, ?_⟩
      · apply slices_Index_int_int.L0_of
        unfold slices_Index_int_int.L0T
        rw [show decide ((i : Int) < L.length) = true by simp; omega, cond_true, idx_ints (List.getElem?_eq_getElem hi)]
        simp only [V.cells, asCons, asInt, asNil, if_true]
        rw [e, wrap1 (show i < 1000000000 by omega)]
        exact h1
      · rw [hd, show (L[i] == x) = false from beq_eq_false_iff_ne.2 (Ne.symm (beq_eq_false_iff_ne.1 e)), Bool.false_or]; exact h2
theorem contains_is [Inhabited MXI] {m : Bool} {L : List Int} (x : Int) (hl : L.length < 1000000) : RUN 31 [.list m 1 (ints L), .int .i64 x] [] = some (.ret [.bool (memB L x)] []) := by
  obtain ⟨r, h1, h2⟩ := index_loop (m := m) (x := x) hl L.length 0 (by omega)
  have hx : RUN 43 [.list m 1 (ints L), .int .i64 x] [] = some (.ret [.int .i64 r] []) := by
    apply slices_Index_int_int_of
    unfold slices_Index_int_int
    rw [len_ints]
    exact h1
  apply slices_Contains_int_int_of
  unfold slices_Contains_int_int
  rw [show noObjs [V.list m 1 (ints L), V.int .i64 x] = true by simp [noObjs, noObj, noObjs_ints], ck_t, callP1_is hx rfl]
  simp only [asInt, if_true]
  rw [h2]
  rfl
theorem has_loop [Inhabited MXI] {m : Bool} {L : List Int} {x : Int} (hl : L.length < 1000000) : ∀ (k i : Nat), i + k = L.length →
    ref12_has.L0 XC x m (ints L) L.length i = some (.ret [.bool (memB (L.drop i) x)] [])
  | 0, i, h => by
    apply ref12_has.L0_of
    unfold ref12_has.L0T
    rw [show decide ((i : Int) < L.length) = false by simp; omega, List.drop_of_length_le (by omega)]
    rfl
  | k + 1, i, h => by
    have hi : i < L.length := by omega
    have ih := has_loop (m := m) (x := x) hl k (i + 1) (by omega)
    have hd : memB (L.drop i) x = ((L[i] == x) || memB (L.drop (i + 1)) x) := by unfold memB; rw [List.drop_eq_getElem_cons hi, List.any_cons]
    apply ref12_has.L0_of
    unfold ref12_has.L0T
    rw [show decide ((i : Int) < L.length) = true by simp; omega, cond_true, idx_ints (List.getElem?_eq_getElem hi)]
    simp only [V.cells, asCons, asInt, asNil, if_true, wrap1 (show i < 1000000000 by omega)]
    rw [ih, hd]
    cases L[i] == x <;> rfl
theorem has_is [Inhabited MXI] {m : Bool} {L : List Int} (x : Int) (hl : L.length < 1000000) : RUN 33 [.list m 1 (ints L), .int .i64 x] [] = some (.ret [.bool (memB L x)] []) := by
  apply ref12_has_of
  unfold ref12_has
  rw [len_ints]
  exact has_loop hl L.length 0 (by omega)
/-- The numbers from a place on are code sets, each other than the first one and those ahead. -/
def okFrom (n : Int) (L : List Int) : Nat → Nat → Bool
  | 0, _ => true
  | k + 1, i => (isB (L.getD i 0) && !(L.getD i 0 == n) && !(memB (L.take i) (L.getD i 0))) && okFrom n L k (i + 1)
def validB (n : Int) (L : List Int) : Bool := okFrom n L L.length 0 && isB n
theorem getD_at {L : List Int} {i : Nat} (hi : i < L.length) : L.getD i 0 = L[i] := by simp [List.getD_eq_getElem?_getD, hi]
theorem valid_loop [Inhabited MXI] {m m2 : Bool} {n : Int} {L : List Int} (hl : L.length < 1000000) : ∀ (k i : Nat), i + k = L.length →
    codeset_Valid.L0 XC n m (ints L) m2 (ints L) L.length i = some (.ret [.bool (okFrom n L k i && isB n)] [])
  | 0, i, h => by
    apply codeset_Valid.L0_of
    unfold codeset_Valid.L0T
    rw [show decide ((i : Int) < L.length) = false by simp; omega, cond_false, callP1_is (is_is n) rfl]
    simp only [asBool, okFrom, Bool.true_and]
    rfl
  | k + 1, i, h => by
    have hi : i < L.length := by omega
    have ih := valid_loop (m := m) (m2 := m2) (n := n) hl k (i + 1) (by omega)
    have J1 : ∀ b, codeset_Valid.J1 XC n m (ints L) m2 (ints L) L.length i b = some (.ret [.bool (!b && (okFrom n L k (i + 1) && isB n))] []) := by
      intro b
      apply codeset_Valid.J1_of
      unfold codeset_Valid.J1T
      rw [wrap1 (show i < 1000000000 by omega), ih]
      cases b <;> rfl
    apply codeset_Valid.L0_of
    unfold codeset_Valid.L0T
    rw [show decide ((i : Int) < L.length) = true by simp; omega, cond_true, idx_ints (List.getElem?_eq_getElem hi)]
    simp only [V.cells, asCons, asInt, asNil, if_true]
    rw [callP1_is (is_is _) rfl]
    simp only [asBool, J1, len_ints, take_ints]
    rw [show (decide (0 ≤ (0 : Int)) && (decide ((0 : Int) ≤ (i : Int)) && decide ((i : Int) ≤ (L.length : Int)))) = true by simp; omega, ck_t,
      show noObjs [V.list m 1 (ints (L.take i)), V.int .i64 L[i]] = true by simp [noObjs, noObj, noObjs_ints], ck_t, callP1_is (contains_is _ (by simp; omega)) rfl]
    simp only [okFrom, getD_at hi]
    cases isB L[i] <;> cases L[i] == n <;> cases memB (L.take i) L[i] <;> simp
theorem valid_is [Inhabited MXI] {m : Bool} {n : Int} {L : List Int} (hl : L.length < 1000000) : RUN 17 [.agg [.int .i64 n, .list m 1 (ints L)]] [] = some (.ret [.bool (validB n L)] []) := by
  apply codeset_Valid_of
  unfold codeset_Valid
  rw [len_ints]
  exact valid_loop hl L.length 0 (by omega)
theorem rvalid_loop [Inhabited MXI] {m m2 : Bool} {n : Int} {L : List Int} (hl : L.length < 1000000) : ∀ (k i : Nat), i + k = L.length →
    ref12_Valid.L1 XC n m (ints L) m2 (ints L) L.length i = some (.ret [.bool (okFrom n L k i)] [])
  | 0, i, h => by
    apply ref12_Valid.L1_of
    unfold ref12_Valid.L1T
    rw [show decide ((i : Int) < L.length) = false by simp; omega]
    rfl
  | k + 1, i, h => by
    have hi : i < L.length := by omega
    have ih := rvalid_loop (m := m) (m2 := m2) (n := n) hl k (i + 1) (by omega)
    have J2 : ∀ b, ref12_Valid.J2 XC n m (ints L) m2 (ints L) L.length i b = some (.ret [.bool (!b && okFrom n L k (i + 1))] []) := by
      intro b
      apply ref12_Valid.J2_of
      unfold ref12_Valid.J2T
      rw [wrap1 (show i < 1000000000 by omega), ih]
      cases b <;> rfl
    apply ref12_Valid.L1_of
    unfold ref12_Valid.L1T
    rw [show decide ((i : Int) < L.length) = true by simp; omega, cond_true, idx_ints (List.getElem?_eq_getElem hi)]
    simp only [V.cells, asCons, asInt, asNil, if_true]
    rw [callP1_is (ris_is _) rfl]
    simp only [asBool, J2, len_ints, take_ints]
    rw [show (decide (0 ≤ (0 : Int)) && (decide ((0 : Int) ≤ (i : Int)) && decide ((i : Int) ≤ (L.length : Int)))) = true by simp; omega, ck_t,
      show noObjs [V.list m 1 (ints (L.take i)), V.int .i64 L[i]] = true by simp [noObjs, noObj, noObjs_ints], ck_t, callP1_is (has_is _ (by simp; omega)) rfl]
    simp only [okFrom, getD_at hi]
    cases isB L[i] <;> cases L[i] == n <;> cases memB (L.take i) L[i] <;> simp
/-- Different numbers from 1 to k are at most k. -/
theorem diff_len : ∀ (k : Nat) (L : List Int), L.Nodup → (∀ x ∈ L, 1 ≤ x ∧ x ≤ k) → L.length ≤ k
  | 0, L, _, h => by
    cases L with
    | nil => simp
    | cons a r => have := h a (by simp); omega
  | k + 1, L, hn, h => by
    have h1 : (L.filter (· != ((k + 1 : Nat) : Int))).length ≤ k := diff_len k _ (hn.sublist List.filter_sublist) fun x hx => by
      have := List.mem_filter.1 hx
      have h3 := h x this.1
      have h4 : x ≠ ((k + 1 : Nat) : Int) := by simpa using this.2
      omega
    have h2 : L.length ≤ (L.filter (· != ((k + 1 : Nat) : Int))).length + 1 := by
      clear h h1
      induction L with
      | nil => simp
      | cons a r ih =>
        have hr := ih (List.nodup_cons.1 hn).2
        by_cases e : a = ((k + 1 : Nat) : Int)
        · subst e
          have : r.filter (· != ((k + 1 : Nat) : Int)) = r := List.filter_eq_self.2 fun x hx => by
            have := (List.nodup_cons.1 hn).1
            simp only [bne_iff_ne, ne_eq]
            rintro rfl
            exact this hx
          rw [List.filter_cons_of_neg (by simp), this]
          simp
        · rw [List.filter_cons_of_pos (by simpa using e)]
          simp only [List.length_cons]; omega
    omega
theorem okFrom_len {n : Int} {L : List Int} (h : okFrom n L L.length 0 = true) : L.length ≤ 5 := by
  have key : ∀ (k i : Nat), i + k = L.length → okFrom n L k i = true → (L.take i).Nodup → (∀ x ∈ L.take i, 1 ≤ x ∧ x ≤ 5) → L.Nodup ∧ ∀ x ∈ L, 1 ≤ x ∧ x ≤ 5 := by
    intro k
    induction k with
    | zero =>
      intro i hi _ h1 h2
      rw [List.take_of_length_le (by omega)] at h1 h2
      exact ⟨h1, h2⟩
    | succ k ih =>
      intro i hi ho h1 h2
      have hlt : i < L.length := by omega
      simp only [okFrom, getD_at hlt, Bool.and_eq_true, Bool.not_eq_true'] at ho
      obtain ⟨⟨⟨o1, _⟩, o2⟩, o3⟩ := ho
      have hm : L[i] ∉ L.take i := by
        intro hx
        have : memB (L.take i) L[i] = true := List.any_eq_true.2 ⟨_, hx, by simp⟩
        rw [this] at o2; cases o2
      have o1' : 1 ≤ L[i] ∧ L[i] ≤ 5 := by simpa [isB] using o1
      have ht : L.take (i + 1) = L.take i ++ [L[i]] := by rw [List.take_succ_eq_append_getElem hlt]
      refine ih (i + 1) (by omega) o3 ?_ ?_
      · rw [ht, List.nodup_append]
        exact ⟨h1, by simp, fun a ha b hb => by simp at hb; subst hb; rintro rfl; exact hm ha⟩
      · rw [ht]
        intro x hx
        rcases List.mem_append.1 hx with hx | hx
        · exact h2 x hx
        · simp at hx; subst hx; exact o1'
  have := key L.length 0 (by omega) h (by simp) (by simp)
  exact diff_len 5 L this.1 (by simpa using this.2)
theorem rvalid_is [Inhabited MXI] {m : Bool} {n : Int} {L : List Int} (hl : L.length < 1000000) : RUN 18 [.agg [.int .i64 n, .list m 1 (ints L)]] [] = some (.ret [.bool (validB n L)] []) := by
  have J0 : ∀ b, ref12_Valid.J0 XC n m (ints L) b = some (.ret [.bool (!b && okFrom n L L.length 0)] []) := by
    intro b
    apply ref12_Valid.J0_of
    unfold ref12_Valid.J0T
    have hv : ref12_Valid.L1 XC n m (ints L) m (ints L) L.length 0 = _ := rvalid_loop (m := m) (m2 := m) (n := n) hl L.length 0 (by omega)
    rw [len_ints, hv]
    cases b <;> rfl
  apply ref12_Valid_of
  unfold ref12_Valid
  rw [callP1_is (ris_is n) rfl]
  simp only [asBool, J0, len_ints]
  rw [cond_ret]
  refine ret_eq ?_
  unfold validB
  cases ho : okFrom n L L.length 0 with
  | false => cases isB n <;> simp
  | true =>
    have := okFrom_len ho
    cases isB n
    · rfl
    · simp; omega
theorem same_loop [Inhabited MXI] {m m2 : Bool} {L : List Int} (hl : L.length < 1000000) : ∀ (k i : Nat), i + k = L.length →
    ref12_SameInts.L0 XC m (ints L) m2 (ints L) L.length i = some (.ret [.bool true] [])
  | 0, i, h => by
    apply ref12_SameInts.L0_of
    unfold ref12_SameInts.L0T
    rw [show decide ((i : Int) < L.length) = false by simp; omega]
    rfl
  | k + 1, i, h => by
    have hi : i < L.length := by omega
    apply ref12_SameInts.L0_of
    unfold ref12_SameInts.L0T
    rw [show decide ((i : Int) < L.length) = true by simp; omega, cond_true, idx_ints (List.getElem?_eq_getElem hi)]
    simp only [V.cells, asCons, asInt, asNil, if_true]
    rw [idx_ints (List.getElem?_eq_getElem hi)]
    simp only [if_true, bne_self_eq_false, cond_false, wrap1 (show i < 1000000000 by omega)]
    exact same_loop hl k (i + 1) (by omega)
theorem same_is [Inhabited MXI] {m m2 : Bool} {L : List Int} (hl : L.length < 1000000) : RUN 19 [.list m 1 (ints L), .list m2 1 (ints L)] [] = some (.ret [.bool true] []) := by
  apply ref12_SameInts_of
  unfold ref12_SameInts
  rw [bne_self_eq_false, cond_false, len_ints]
  exact same_loop hl L.length 0 (by omega)
theorem codes_is [Inhabited MXI] {m m2 : Bool} {n : Int} {L : List Int} (hl : L.length < 1000000) : RUN 11 [.agg [.int .i64 n, .list m 1 (ints L)], .agg [.int .i64 n, .list m2 1 (ints L)]] [] = some (.ret [.bool true] []) := by
  have J0 : ∀ b, ref12_SameCodes.J0 XC b = some (.ret [.bool b] []) := fun b => ref12_SameCodes.J0_of b _ rfl
  apply ref12_SameCodes_of
  unfold ref12_SameCodes
  rw [beq_self_eq_true, cond_true, show noObjs [V.list m 1 (ints L), V.list m2 1 (ints L)] = true by simp [noObjs, noObj, noObjs_ints], ck_t, callP1_is (same_is hl) rfl]
  simp only [asBool, J0]
end Go.Proofs.YtphjfhglapkmhaaDoor.E
set_option maxRecDepth 100000
namespace Go.Proofs.YtphjfhglapkmhaaDoor.E
open Go
/-- A code set's name. -/
def nameAt (n : Int) : ByteArray := bif (n == (1 : Int)) then (⟨#[97, 115, 99, 105, 105]⟩ : ByteArray) else bif (n == (2 : Int)) then (⟨#[108, 97, 116, 105, 110]⟩ : ByteArray) else bif (n == (3 : Int)) then (⟨#[117, 116, 102, 56]⟩ : ByteArray) else bif (n == (4 : Int)) then (⟨#[117, 116, 102, 49, 54]⟩ : ByteArray) else bif (n == (5 : Int)) then (⟨#[103, 114, 101, 101, 107]⟩ : ByteArray) else (⟨#[]⟩ : ByteArray)
theorem cond_str {b : Bool} {x y : ByteArray} {s : List O} : (bif b then (some (.ret [.str x] s) : R) else some (.ret [.str y] s)) = some (.ret [.str (bif b then x else y)] s) := by cases b <;> rfl
theorem name_is [Inhabited MXI] (n : Int) : RUN 24 [.int .i64 n] [] = some (.ret [.str (nameAt n)] []) := by
  apply ref12_Name_of
  unfold ref12_Name nameAt retR
  simp only [cond_str]
/-- The number of a name, and the error: from a number on. -/
def setFrom (s : ByteArray) : Nat → Nat → Int × Int
  | 0, _ => (0, 5)
  | k + 1, i => bif (nameAt (i : Int)).toList == s.toList then ((i : Int), 0) else setFrom s k (i + 1)
def setOf (s : ByteArray) : Int × Int := setFrom s 5 1
theorem rset_loop [Inhabited MXI] {s : ByteArray} : ∀ (k i : Nat), i + k = 6 → ref12_Set.L0 XC s i = some (.ret [.int .i64 (setFrom s k i).1, .int .i64 (setFrom s k i).2] [])
  | 0, i, h => by
    apply ref12_Set.L0_of
    unfold ref12_Set.L0T
    rw [show decide ((i : Int) ≤ 5) = false by simp; omega]
    rfl
  | k + 1, i, h => by
    have ih := rset_loop (s := s) k (i + 1) (by omega)
    apply ref12_Set.L0_of
    unfold ref12_Set.L0T
    rw [show decide ((i : Int) ≤ 5) = true by simp; omega, cond_true, callP1_is (name_is _) rfl]
    simp only [asStr, wrap1 (show i < 1000000000 by omega), setFrom]
    rw [ih]
    cases (nameAt (i : Int)).toList == s.toList <;> rfl
theorem rset_is [Inhabited MXI] (s : ByteArray) : RUN 10 [.str s] [] = some (.ret [.int .i64 (setOf s).1, .int .i64 (setOf s).2] []) := by
  apply ref12_Set_of
  unfold ref12_Set
  exact rset_loop 5 1 rfl
theorem set_loop [Inhabited MXI] {s : ByteArray} : ∀ (k i : Nat), i + k = 5 → codeset_Set.L0 XC s (nameAt 1) (nameAt 2) (nameAt 3) (nameAt 4) (nameAt 5) i = some (.ret [.int .i64 (setFrom s k (i + 1)).1, .int .i64 (setFrom s k (i + 1)).2] [])
  | 0, i, h => by
    apply codeset_Set.L0_of
    unfold codeset_Set.L0T
    rw [show decide ((i : Int) < 5) = false by simp; omega]
    rfl
  | k + 1, i, h => by
    have ih := set_loop (s := s) k (i + 1) (by omega)
    have hi : ∀ K : V → R, idxK [V.str (nameAt 1), V.str (nameAt 2), V.str (nameAt 3), V.str (nameAt 4), V.str (nameAt 5)] (i : Int) K = K (.str (nameAt ((i + 1 : Nat) : Int))) := by
      intro K
      match i, h with
      | 0, _ => rfl
      | 1, _ => rfl
      | 2, _ => rfl
      | 3, _ => rfl
      | 4, _ => rfl
      | n + 5, h => omega
    apply codeset_Set.L0_of
    unfold codeset_Set.L0T
    rw [show decide ((i : Int) < 5) = true by simp; omega, cond_true, ck_t, hi]
    simp only [goodK, goods, V.good, Bool.and_self, cond_true, asStr, wrap1 (show i < 1000000000 by omega), setFrom]
    rw [ih]
    cases (nameAt ((i + 1 : Nat) : Int)).toList == s.toList <;> rfl
theorem names_is [Inhabited MXI] : RUN 23 [] [] = some (.ret [.agg [.str (nameAt 1), .str (nameAt 2), .str (nameAt 3), .str (nameAt 4), .str (nameAt 5)]] []) := codeset_names_of _ rfl
theorem set_is [Inhabited MXI] (s : ByteArray) : RUN 9 [.str s] [] = some (.ret [.int .i64 (setOf s).1, .int .i64 (setOf s).2] []) := by
  apply codeset_Set_of
  unfold codeset_Set
  rw [callP1_is names_is rfl]
  simp only [asAgg, asCons, asStr, asNil]
  exact set_loop 5 0 rfl
theorem setFrom_zero (s : ByteArray) : ∀ (k i : Nat), (setFrom s k i).2 = 0 ∨ setFrom s k i = (0, 5)
  | 0, _ => .inr rfl
  | k + 1, i => by
    unfold setFrom
    cases (nameAt (i : Int)).toList == s.toList with
    | true => exact .inl rfl
    | false => exact setFrom_zero s k (i + 1)
def sN (w : ByteArray) : Int := (setOf w).1
def okW (w : ByteArray) : Bool := (setOf w).2 == 0
theorem sN_bad {w : ByteArray} (h : okW w = false) : sN w = 0 := by
  rcases setFrom_zero w 5 1 with e | e
  · unfold okW setOf at h; rw [e] at h; cases h
  · unfold sN setOf; rw [e]
theorem okFrom_all {n : Int} {L : List Int} : ∀ (k i : Nat), i + k = L.length → okFrom n L k i = true → ∀ x ∈ L.drop i, isB x = true
  | 0, i, h, _, x, hx => by rw [List.drop_of_length_le (by omega)] at hx; cases hx
  | k + 1, i, h, ho, x, hx => by
    have hi : i < L.length := by omega
    simp only [okFrom, getD_at hi, Bool.and_eq_true] at ho
    rw [List.drop_eq_getElem_cons hi] at hx
    rcases List.mem_cons.1 hx with rfl | hx
    · exact ho.1.1.1
    · exact okFrom_all k (i + 1) (by omega) ho.2 x hx
theorem validB_zero {n : Int} {L : List Int} (h : n = 0 ∨ 0 ∈ L) : validB n L = false := by
  rw [Bool.eq_false_iff]
  intro hv
  simp only [validB, Bool.and_eq_true] at hv
  rcases h with rfl | h
  · exact absurd hv.2 (by decide)
  · exact absurd (okFrom_all L.length 0 (by omega) hv.1 0 (by simpa using h)) (by decide)
/-- What Parse answers. -/
def badO : Out := .ret [.agg [.int .i64 0, .list false 1 []], .int .i64 2] []
def finO (n : Int) (m : Bool) (L : List Int) : Out := bif validB n L then .ret [.agg [.int .i64 n, .list m 1 (ints L)], .int .i64 0] [] else badO
theorem idx_strs {W : List ByteArray} {i : Nat} (h : i < W.length) (K : V → R) : idxK (cstrs W) (i : Int) K = K (.str W[i]) := by
  unfold idxK cstrs
  rw [if_pos (by omega), show ((i : Int)).toNat = i from rfl, List.getElem?_map, List.getElem?_eq_getElem h]
  rfl
theorem len_strs (W : List ByteArray) : (cstrs W).length = W.length := by simp [cstrs]
theorem apK_one {es : List V} {v : V} {K : R} (h : es.length < 1000000) : apK es [v] 8 K = K := by
  unfold apK
  have h1 : Nat.ble ((es.length + [v].length) * 8) 140737488355328 = true := Nat.ble_eq_true_of_le (by simp only [List.length_singleton]; omega)
  have h2 : Nat.ble (es.length + [v].length) 140737488355328 = true := Nat.ble_eq_true_of_le (by simp only [List.length_singleton]; omega)
  rw [h1, h2]
  rfl
theorem ints_snoc (L : List Int) (x : Int) : ints L ++ [V.int .i64 x] = ints (L ++ [x]) := by simp [ints]
theorem fin_is [Inhabited MXI] {m : Bool} {n : Int} {L : List Int} (hl : L.length < 1000000) (KP : V → R) :
    ck (noObjs [(V.agg [(V.int .i64 n), (V.list m 1 (ints L))])]) (callP1 (RUN 17 [(V.agg [(V.int .i64 n), (V.list m 1 (ints L))])] []) (fun v133 => asBool v133 fun b135 => bif (!b135) then retR [(V.agg [(V.int .i64 0), (V.list false 1 [])]), (V.int .i64 2)] [] else retR [(V.agg [(V.int .i64 n), (V.list m 1 (ints L))]), (V.int .i64 0)] []) KP) = some (finO n m L) := by
  rw [show noObjs [(V.agg [(V.int .i64 n), (V.list m 1 (ints L))])] = true by simp [noObjs, noObj, noObjs_ints], ck_t, callP1_is (valid_is hl) rfl]
  unfold finO asBool
  cases validB n L <;> rfl
theorem rfin_is [Inhabited MXI] {m : Bool} {n : Int} {L : List Int} (hl : L.length < 1000000) (KP : V → R) :
    ck (noObjs [(V.agg [(V.int .i64 n), (V.list m 1 (ints L))])]) (callP1 (RUN 18 [(V.agg [(V.int .i64 n), (V.list m 1 (ints L))])] []) (fun v133 => asBool v133 fun b135 => bif (!b135) then retR [(V.agg [(V.int .i64 0), (V.list false 1 [])]), (V.int .i64 2)] [] else retR [(V.agg [(V.int .i64 n), (V.list m 1 (ints L))]), (V.int .i64 0)] []) KP) = some (finO n m L) := by
  rw [show noObjs [(V.agg [(V.int .i64 n), (V.list m 1 (ints L))])] = true by simp [noObjs, noObj, noObjs_ints], ck_t, callP1_is (rvalid_is hl) rfl]
  unfold finO asBool
  cases validB n L <;> rfl
theorem parse_loop [Inhabited MXI] {m : Bool} {W : List ByteArray} {es : List V} {n : Int} (hW : W.length < 1000000) : ∀ (k i : Nat), i + k = W.length → 1 ≤ i → ∀ (m' : Bool) (L : List Int), L.length < i →
    codeset_Parse.L0 XC m (cstrs W) W.length i es n m' (ints L) = some (finO n (m' || decide (0 < k)) (L ++ (W.drop i).map sN))
  | 0, i, h, _, m', L, hL => by
    apply codeset_Parse.L0_of
    unfold codeset_Parse.L0T
    rw [show decide ((i : Int) < W.length) = false by simp; omega, cond_false, fin_is (by omega), List.drop_of_length_le (by omega)]
    simp
  | k + 1, i, h, h1, m', L, hL => by
    have hi : i < W.length := by omega
    have ih := parse_loop (m := m) (es := es) (n := n) hW k (i + 1) (by omega) (by omega) true (L ++ [sN W[i]]) (by simp; omega)
    apply codeset_Parse.L0_of
    unfold codeset_Parse.L0T
    rw [show decide ((i : Int) < W.length) = true by simp; omega, cond_true, idx_strs hi]
    simp only [V.cells, asCons, asStr, asNil]
    rw [callP2_is (set_is _) rfl rfl]
    simp only [asTup, asInt, if_true]
    rw [show ((i : Int) == 0) = false by simp; omega, cond_false, apK_one (by rw [len_ints]; omega), ints_snoc]
    apply codeset_Parse.J1_of
    unfold codeset_Parse.J1T
    rw [wrap1 (show i < 1000000000 by omega), show (m' || !([V.int .i64 (setOf W[i]).1]).isEmpty) = true by simp]
    refine ih.trans ?_
    rw [List.drop_eq_getElem_cons hi, show decide (0 < k + 1) = true by simp, Bool.or_true, Bool.true_or, List.append_assoc]
    rfl
theorem rparse_loop [Inhabited MXI] {m : Bool} {W : List ByteArray} {es : List V} {n : Int} (hW : W.length < 1000000) : ∀ (k i : Nat), i + k = W.length → 1 ≤ i → ∀ (m' : Bool) (L : List Int), L.length < i →
    ref12_Parse.L0 XC m (cstrs W) W.length i es n m' (ints L) = some (bif (W.drop i).all okW then finO n (m' || decide (0 < k)) (L ++ (W.drop i).map sN) else badO)
  | 0, i, h, _, m', L, hL => by
    apply ref12_Parse.L0_of
    unfold ref12_Parse.L0T
    rw [show decide ((i : Int) < W.length) = false by simp; omega, cond_false, rfin_is (by omega), List.drop_of_length_le (by omega)]
    simp
  | k + 1, i, h, h1, m', L, hL => by
    have hi : i < W.length := by omega
    have ih := rparse_loop (m := m) (es := es) (n := n) hW k (i + 1) (by omega) (by omega) true (L ++ [sN W[i]]) (by simp; omega)
    apply ref12_Parse.L0_of
    unfold ref12_Parse.L0T
    rw [show decide ((i : Int) < W.length) = true by simp; omega, cond_true, idx_strs hi]
    simp only [V.cells, asCons, asStr, asNil]
    rw [callP2_is (rset_is _) rfl rfl]
    simp only [asTup, asInt, if_true]
    rw [List.drop_eq_getElem_cons hi, List.all_cons]
    cases ho : okW W[i] with
    | false =>
      rw [show ((setOf W[i]).2 != 0) = true by unfold okW at ho; simpa [bne] using ho]
      rfl
    | true =>
      rw [show ((setOf W[i]).2 != 0) = false by unfold okW at ho; simpa [bne] using ho, cond_false, show ((i : Int) == 0) = false by simp; omega, cond_false, apK_one (by rw [len_ints]; omega), ints_snoc]
      apply ref12_Parse.J1_of
      unfold ref12_Parse.J1T
      rw [wrap1 (show i < 1000000000 by omega), show (m' || !([V.int .i64 (setOf W[i]).1]).isEmpty) = true by simp]
      refine ih.trans ?_
      rw [show decide (0 < k + 1) = true by simp, Bool.or_true, Bool.true_or, List.append_assoc, Bool.true_and]
      rfl
theorem pieces_len (a : ByteArray) : (pieces a).length = Lib.countB a comma + 1 := Lib.splitB_all comma (by decide) 0 _ a rfl
theorem pieces_lt {a : ByteArray} (h : a.size ≤ 2000) : (pieces a).length < 1000000 := by
  have := Lib.countB_le comma (by decide) a.size a (Nat.le_refl _)
  rw [pieces_len]; omega
theorem split_is [Inhabited MXI] {a : ByteArray} (h : a.size ≤ 2000) : RUN 22 [.str a, .str (⟨#[44]⟩ : ByteArray)] [] = some (.ret [.list true 1 (cstrs (pieces a))] []) := by
  refine run_given (G := GG) (g := gSplit) rfl ?_
  show (if a.size < 4294967281 ∧ comma = comma then some (Out.ret [V.list true 1 (cstrs (pieces a))] []) else none) = _
  rw [if_pos ⟨by omega, rfl⟩]
theorem noObjs_strs (W : List ByteArray) : noObjs (cstrs W) = true := by
  induction W with
  | nil => rfl
  | cons a l ih => simp only [cstrs, List.map_cons] at ih ⊢; simp only [noObjs, noObj, ih, Bool.and_self]
/-- What Parse answers of a text. -/
def parseO (a : ByteArray) : Out := finO (sN ((pieces a).headD ⟨#[]⟩)) (decide (1 < (pieces a).length)) ((pieces a).tail.map sN)
theorem parse_is [Inhabited MXI] {a : ByteArray} (h : a.size ≤ 2000) : RUN 7 [.str a] [] = some (parseO a) := by
  have hp := pieces_len a
  have hl := pieces_lt h
  apply codeset_Parse_of
  unfold codeset_Parse
  rw [show decide ((a.size : Int) > 65536) = false by simp; omega, cond_false, callP1_is (split_is h) (by simp [noObj, noObjs_strs])]
  simp only [asList, if_true, len_strs]
  unfold parseO
  generalize pieces a = W at hp hl ⊢
  match W, hp with
  | w :: W, hp =>
    have ih := parse_loop (m := true) (es := []) (n := sN w) hl W.length 1 (by simp; omega) (by omega) false [] (by simp)
    apply codeset_Parse.L0_of
    unfold codeset_Parse.L0T
    rw [show decide ((0 : Int) < ((w :: W).length : Nat)) = true by simp, cond_true]
    rw [show idxK (cstrs (w :: W)) 0 = fun K => K (V.str w) from funext fun K => idx_strs (W := w :: W) (i := 0) (by simp) K]
    simp only [V.cells, asCons, asStr, asNil]
    rw [callP2_is (set_is _) rfl rfl]
    simp only [asTup, asInt, if_true]
    rw [show ((0 : Int) == 0) = true from rfl, cond_true]
    apply codeset_Parse.J1_of
    unfold codeset_Parse.J1T
    refine ih.trans ?_
    simp
theorem rparse_is [Inhabited MXI] {a : ByteArray} (h : a.size ≤ 2000) : RUN 8 [.str a] [] = some (parseO a) := by
  have hp := pieces_len a
  have hl := pieces_lt h
  apply ref12_Parse_of
  unfold ref12_Parse
  rw [show decide ((a.size : Int) > 65536) = false by simp; omega, cond_false, callP1_is (split_is h) (by simp [noObj, noObjs_strs])]
  simp only [asList, if_true, len_strs]
  unfold parseO
  generalize pieces a = W at hp hl ⊢
  match W, hp with
  | w :: W, hp =>
    have ih := rparse_loop (m := true) (es := []) (n := sN w) hl W.length 1 (by simp; omega) (by omega) false [] (by simp)
    have hz : ∀ x ∈ w :: W, okW x = false → finO (sN w) (decide (1 < (w :: W).length)) (W.map sN) = badO := by
      intro x hx ho
      unfold finO
      rw [validB_zero, cond_false]
      rcases List.mem_cons.1 hx with rfl | hx
      · exact .inl (sN_bad ho)
      · exact .inr (List.mem_map.2 ⟨x, hx, sN_bad ho⟩)
    apply ref12_Parse.L0_of
    unfold ref12_Parse.L0T
    rw [show decide ((0 : Int) < ((w :: W).length : Nat)) = true by simp, cond_true]
    rw [show idxK (cstrs (w :: W)) 0 = fun K => K (V.str w) from funext fun K => idx_strs (W := w :: W) (i := 0) (by simp) K]
    simp only [V.cells, asCons, asStr, asNil]
    rw [callP2_is (rset_is _) rfl rfl]
    simp only [asTup, asInt, if_true]
    cases ho : okW w with
    | false =>
      rw [show ((setOf w).2 != 0) = true by unfold okW at ho; simpa [bne] using ho]
      refine congrArg some (hz w (by simp) ho).symm
    | true =>
      rw [show ((setOf w).2 != 0) = false by unfold okW at ho; simpa [bne] using ho, cond_false, show ((0 : Int) == 0) = true from rfl, cond_true]
      apply ref12_Parse.J1_of
      unfold ref12_Parse.J1T
      refine ih.trans ?_
      cases ha : ((w :: W).drop 1).all okW with
      | true => simp
      | false =>
        obtain ⟨x, hx, hb⟩ := List.all_eq_false.1 ha
        refine congrArg some (hz x (by simp at hx; simp [hx]) (by simpa using hb)).symm
theorem long_is [Inhabited MXI] (a : ByteArray) : RUN 5 [.list true 1 [.str a]] [] = some (.ret [.bool (decide ((a.size : Int) > 2000))] []) := by
  have l1 : law12_long.L0 XC true [.str a] 1 1 = some (.ret [.bool false] []) := law12_long.L0_of _ _ _ _ _ rfl
  apply law12_long_of
  unfold law12_long
  apply law12_long.L0_of
  unfold law12_long.L0T
  show (bif decide ((a.size : Int) > 2000) then retR [V.bool true] [] else law12_long.L0 XC true [.str a] 1 1) = _
  rw [l1]
  cases decide ((a.size : Int) > 2000) <;> rfl
theorem aw [Inhabited MXI] : RUN 6 [] [] = some (.ret [.bool true] []) := run_fuel (n := 40) (by kernel_rfl)
theorem parses_is [Inhabited MXI] (a : ByteArray) : RUN 3 [.str a] [] = some (.ret [.bool true] []) := by
  have J0 : ∀ b, law12_CodesetParses.J0 XC b = some (.ret [.bool b] []) := fun b => law12_CodesetParses.J0_of b _ rfl
  apply law12_CodesetParses_of
  unfold law12_CodesetParses
  rw [show noObjs [(V.list true 1 [(V.str a)])] = true from rfl, ck_t, callP1_is (long_is a) rfl]
  simp only [asBool]
  cases hs : decide ((a.size : Int) > 2000) with
  | true =>
    rw [cond_true, callP1_is aw rfl]
    rfl
  | false =>
    have h : a.size ≤ 2000 := by simp at hs; omega
    obtain ⟨n, m, L, e, hp, hL⟩ : ∃ (n : Int) (m : Bool) (L : List Int) (e : Int), parseO a = .ret [.agg [.int .i64 n, .list m 1 (ints L)], .int .i64 e] [] ∧ L.length < 1000000 := by
      have hl := pieces_lt h
      unfold parseO finO
      cases validB (sN ((pieces a).headD ⟨#[]⟩)) ((pieces a).tail.map sN) with
      | true => exact ⟨_, _, _, _, rfl, by simp; omega⟩
      | false => exact ⟨0, false, [], 2, rfl, by simp⟩
    have h7 := (parse_is h).trans (congrArg some hp)
    have h8 := (rparse_is h).trans (congrArg some hp)
    have hno : noObj (.agg [.int .i64 n, .list m 1 (ints L)]) = true := by simp [noObj, noObjs, noObjs_ints]
    rw [cond_false, callP2_is h7 hno rfl]
    simp only [asTup, asCons, asAgg, asInt, asNil, asList, if_true]
    rw [callP2_is h8 hno rfl]
    simp only [if_true]
    rw [callP2_is (set_is a) rfl rfl]
    simp only [if_true]
    rw [callP2_is (rset_is a) rfl rfl]
    simp only [if_true]
    rw [show noObjs [(V.agg [(V.int .i64 n), (V.list m 1 (ints L))]), (V.agg [(V.int .i64 n), (V.list m 1 (ints L))])] = true by simp [noObj, noObjs, noObjs_ints], ck_t, callP1_is (codes_is hL) rfl]
    simp only [cond_true, beq_self_eq_true]
    rw [callP1_is aw rfl]
    simp only [J0]
end Go.Proofs.YtphjfhglapkmhaaDoor.E
