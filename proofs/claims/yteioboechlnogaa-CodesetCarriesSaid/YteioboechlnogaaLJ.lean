import Derived.Test.YteioboechlnogaaLB
import Derived.Test.YteioboechlnogaaLD
import Derived.Test.YteioboechlnogaaPx4
import Derived.Test.YteioboechlnogaaGP
import Derived.Test.YteioboechlnogaaGX
import Derived.Test.YteioboechlnogaaPx7
import Derived.Test.YteioboechlnogaaPx6
import Derived.Test.YteioboechlnogaaGC
import Derived.Test.YteioboechlnogaaPx5
import Derived.Test.YteioboechlnogaaPx10
/-
  Convert and Carry: the program and the reference are one.
-/
namespace Go.Proofs.Yteioboechlnogaa.P
open Go.Shelf Go.RowKit Go.Proofs.YteioboechlnogaaW.PrintWords Go.Proofs.YteioboechlnogaaW.PrintLast Go.Proofs.YteioboechlnogaaW.PrintMore

def byB (l : List Int) : List UInt8 := l.map fun n => UInt8.ofNat n.toNat
theorem byB_length (l : List Int) : (byB l).length = l.length := by simp [byB]
theorem strOfNums_list (l : List Int) : (strOfNums l).data.toList = byB l := by simp [strOfNums, byB]
/-- The bytes of points; none where one has no sign. -/
def byt (n : Int) : List Int → Option (List UInt8)
  | [] => some []
  | p :: ps => (encL n p).bind fun l => (byt n ps).map fun t => byB l ++ t

/-- What a run over a text's points meets from a place on. -/
def Runs (n : Int) (s : ByteArray) : Nat → List (Int × Int) → Prop
  | at_, [] => at_ = s.size
  | at_, x :: xs => x.1 = at_ ∧ at_ < s.size ∧ ((x.2 = -1 ∧ xs = [] ∧ ∀ p l, encL n p = some l → ¬ Pre l (s.extract at_ s.size)) ∨ (∃ l, encL n x.2 = some l ∧ Pre l (s.extract at_ s.size) ∧ Runs n s (at_ + l.length) xs))

theorem ext_size (s : ByteArray) {a : Nat} (h : a ≤ s.size) : (s.extract a s.size).size = s.size - a := by
  rw [ByteArray.size_extract]
  omega
theorem ext_list (s : ByteArray) (a : Nat) : (s.extract a s.size).data.toList = s.data.toList.drop a := by
  rw [ByteArray.data_extract, Array.toList_extract, List.extract_eq_take_drop]
  apply List.take_of_length_le
  simp
theorem pre_iff {n p : Int} {l : List Int} (he : encL n p = some l) (s : ByteArray) {a : Nat} (ha : a ≤ s.size) : Pre l (s.extract a s.size) ↔ a + l.length ≤ s.size ∧ (s.data.toList.drop a).take l.length = byB l := by
  have hb := encL_bytes he
  have key := preAt_iff (s.extract a s.size) l 0 hb.1
  unfold Pre
  rw [show (0 : Int) = ((0 : Nat) : Int) by rfl, key, ext_list, ext_size s ha]
  simp only [Nat.zero_add, List.drop_zero, hb.2.1, or_false]
  constructor
  · rintro ⟨h1, h2⟩
    exact ⟨by omega, h2⟩
  · rintro ⟨h1, h2⟩
    exact ⟨by omega, h2⟩
theorem pos_len {n p : Int} {l : List Int} (he : encL n p = some l) : 1 ≤ l.length := by
  have hb := encL_bytes he
  cases l with
  | nil => exact absurd rfl hb.2.1
  | cons a l => simp

theorem seq_runs {n : Int} (h1 : 1 ≤ n) (h5 : n ≤ 5) (s : ByteArray) : ∀ (fuel a : Nat), a ≤ s.size → s.size < fuel + a → ∃ xs, seqF (nxF 16 n) s fuel a = some xs ∧ Runs n s a xs ∧ xs.length ≤ s.size - a
  | 0, a, ha, hf => by omega
  | fuel + 1, a, ha, hf => by
    rw [seqF]
    by_cases hl : a < s.size
    · rw [if_pos hl]
      have hsz := ext_size s ha
      have hn := next_ok h1 h5 (s.extract a s.size) (by omega)
      cases hr : nxF 16 n (s.extract a s.size) with
      | none => rw [hr] at hn; exact hn.elim
      | some r =>
        rw [hr] at hn
        simp only [Option.bind_some]
        rcases hn with ⟨h0, hno⟩ | ⟨l, he, hp, hk⟩
        · rw [if_pos h0]
          exact ⟨_, rfl, ⟨rfl, hl, .inl ⟨rfl, rfl, hno⟩⟩, by simp; omega⟩
        · have hlen := pos_len he
          have hle := (encL_bytes he).2.2.1
          rw [if_neg (by omega), if_pos (by omega)]
          obtain ⟨hfit, _⟩ := (pre_iff he s ha).1 hp
          have hkn : r.2.toNat = l.length := by omega
          rw [hkn]
          obtain ⟨xs, hx, hR, hxl⟩ := seq_runs h1 h5 s fuel (a + l.length) (by omega) (by omega)
          rw [hx]
          exact ⟨_, rfl, ⟨rfl, hl, .inr ⟨l, he, hp, hR⟩⟩, by simp; omega⟩
    · rw [if_neg hl]
      exact ⟨[], rfl, by show a = s.size; omega, by simp⟩

/-- The points up to the first wrong one; their places; the first wrong one's place. -/
def goodP : List (Int × Int) → List Int
  | [] => []
  | x :: xs => if x.2 < 0 then [] else x.2 :: goodP xs
def goodA : List (Int × Int) → List Int
  | [] => []
  | x :: xs => if x.2 < 0 then [] else x.1 :: goodA xs
def badOf : List (Int × Int) → Int
  | [] => -1
  | x :: xs => if x.2 < 0 then x.1 else badOf xs
theorem goodP_length (xs : List (Int × Int)) : (goodP xs).length ≤ xs.length := by
  induction xs with
  | nil => simp [goodP]
  | cons x xs ih =>
    unfold goodP
    split <;> simp <;> omega
theorem good_lengths (xs : List (Int × Int)) : (goodA xs).length = (goodP xs).length := by
  induction xs with
  | nil => rfl
  | cons x xs ih =>
    unfold goodP goodA
    split
    · rfl
    · simp [ih]

theorem read_runs {n : Int} (h1 : 1 ≤ n) (h5 : n ≤ 5) (s : ByteArray) (hs : s.size ≤ 65536) (k : Nat) : ∀ (xs : List (Int × Int)) (a : Nat) (P Q : List Int), Runs n s a xs → P.length + xs.length ≤ 1000000 → Q.length + xs.length ≤ 1000000 →
    intermederef12_read.l0 (k + xs.length + 6) n s P Q a = some (P ++ goodP xs, Q ++ goodA xs, badOf xs)
  | [], a, P, Q, hR, _, _ => by
    have ha : a = s.size := hR
    rw [intermederef12_read.l0, if_neg (by omega)]
    simp [goodP, goodA, badOf]
  | x :: xs, a, P, Q, hR, hP, hQ => by
    obtain ⟨hx1, hl, hR⟩ := hR
    simp only [List.length_cons] at hP hQ
    rw [show k + (x :: xs).length + 6 = (k + xs.length + 6) + 1 by simp; omega, intermederef12_read.l0, if_pos (by omega), if_pos (by omega), if_pos (by omega)]
    rw [show ((a : Int)).toNat = a by simp]
    have hf := first_ok h1 h5 (s.extract a s.size) (k + xs.length + 2)
    rw [show k + xs.length + 2 + 4 = k + xs.length + 6 by omega] at hf
    cases hr : intermederef12_first.f (k + xs.length + 6) n (s.extract a s.size) with
    | none => rw [hr] at hf; exact hf.elim
    | some r =>
      rw [hr] at hf
      simp only [Option.bind_some]
      rcases hR with ⟨hm, rfl, hno⟩ | ⟨l, he, hp, hR⟩
      · rcases hf with ⟨_, l, he, hp, _⟩ | ⟨hb, _⟩
        · exact absurd hp (hno _ _ he)
        · rw [if_neg (by rw [hb]; decide)]
          simp [goodP, goodA, badOf, hm, hx1]
      · have hge : ¬ x.2 < 0 := by have := (encL_bytes he).2.2.2.1; omega
        rcases hf with ⟨hb, l', he', hp', hm⟩ | ⟨_, hno⟩
        · obtain ⟨hq, rfl⟩ := uni h1 h5 he hp he' hp'
          have hlen := (encL_bytes he).2.2.1
          rw [if_pos hb, if_pos (by omega), if_pos (by omega), hm, w64 (by omega), ← hq]
          rw [show ((a : Int) + (l.length : Int)) = ((a + l.length : Nat) : Int) by omega]
          rw [read_runs h1 h5 s hs k xs (a + l.length) _ _ hR (by simp; omega) (by simp; omega)]
          simp [goodP, goodA, badOf, hge, hx1]
        · exact absurd hp (hno _ _ he)

/-- Of a text that is right: its points' bytes are the text's. -/
theorem runs_bytes {n : Int} (s : ByteArray) : ∀ (xs : List (Int × Int)) (a : Nat), Runs n s a xs → badOf xs = -1 → byt n (goodP xs) = some (s.data.toList.drop a)
  | [], a, hR, _ => by
    have ha : a = s.size := hR
    have hz : s.data.toList.drop a = [] := by
      apply List.drop_eq_nil_of_le
      rw [ha, Array.length_toList]
      exact Nat.le_refl _
    rw [hz]
    rfl
  | x :: xs, a, hR, hb => by
    obtain ⟨hx1, hl, hR⟩ := hR
    rcases hR with ⟨hm, rfl, hno⟩ | ⟨l, he, hp, hR⟩
    · simp [badOf, hm, hx1] at hb
    · have hge : ¬ x.2 < 0 := by have := (encL_bytes he).2.2.2.1; omega
      simp only [badOf, if_neg hge] at hb
      simp only [goodP, if_neg hge, byt, he, Option.bind_some]
      rw [runs_bytes s xs _ hR hb]
      obtain ⟨hfit, ht⟩ := (pre_iff he s (by omega)).1 hp
      simp only [Option.map_some, ← ht]
      rw [← List.drop_drop, List.take_append_drop]

/-- What was written of points is read as these points. -/
theorem runs_back {n : Int} (h1 : 1 ≤ n) (h5 : n ≤ 5) (s : ByteArray) : ∀ (ps : List Int) (xs : List (Int × Int)) (a : Nat), a ≤ s.size → Runs n s a xs → byt n ps = some (s.data.toList.drop a) → badOf xs = -1 ∧ goodP xs = ps ∧ NoNeg xs
  | [], xs, a, ha, hR, hb => by
    have hz := Option.some.inj hb
    have hz' := congrArg List.length hz
    rw [List.length_drop, Array.length_toList] at hz'
    have hsz : s.data.size = s.size := rfl
    cases xs with
    | nil => exact ⟨rfl, rfl, fun y hy => absurd hy (by simp)⟩
    | cons x xs =>
      have := hR.2.1
      simp at hz'
      omega
  | p :: ps, xs, a, ha, hR, hb => by
    simp only [byt] at hb
    obtain ⟨l, he, hb⟩ := Option.bind_eq_some_iff.mp hb
    obtain ⟨t, ht, hb⟩ := Option.map_eq_some_iff.mp hb
    have hlen := pos_len he
    have hL := congrArg List.length hb
    rw [List.length_append, byB_length, List.length_drop] at hL
    have hsl : s.data.toList.length = s.size := by rw [Array.length_toList]; rfl
    have hp : Pre l (s.extract a s.size) := (pre_iff he s ha).2 ⟨by omega, by rw [← hb, List.take_left' (byB_length l)]⟩
    have hd : s.data.toList.drop (a + l.length) = t := by
      rw [← List.drop_drop, ← hb, List.drop_left' (byB_length l)]
    cases xs with
    | nil =>
      have : a = s.size := hR
      omega
    | cons x xs =>
      obtain ⟨hx1, hl, hR⟩ := hR
      rcases hR with ⟨hm, rfl, hno⟩ | ⟨l', he', hp', hR⟩
      · exact absurd hp (hno _ _ he)
      · obtain ⟨hq, rfl⟩ := uni h1 h5 he hp he' hp'
        have hge : ¬ x.2 < 0 := by have := (encL_bytes he').2.2.2.1; omega
        obtain ⟨g1, g2, g3⟩ := runs_back h1 h5 s ps xs (a + l.length) (by omega) hR (by rw [ht, hd])
        refine ⟨by simp only [badOf, if_neg hge]; exact g1, by simp only [goodP, if_neg hge, g2, hq], ?_⟩
        intro y hy
        rcases List.mem_cons.1 hy with rfl | hy
        · exact hge
        · exact g3 y hy



theorem sgF_ok {n : Int} (h1 : 1 ≤ n) (h5 : n ≤ 5) (p : Int) : IsSign (encL n p) (sgF n p) := sign_ok h1 h5 p 3

theorem same_self (l : List Int) (hl : l.length ≤ 1000000) : ∃ k, ∀ j, intermederef12_SameInts.f (k + j) l l = some true := by
  have key : ∀ (m i j : Nat), i + m = l.length → intermederef12_SameInts.l0 (m + 1 + j) l l (l.length : Int) i = some true := by
    intro m
    induction m with
    | zero =>
      intro i j h
      rw [show 0 + 1 + j = j + 1 by omega, intermederef12_SameInts.l0, if_neg (by omega)]
    | succ m ih =>
      intro i j h
      rw [show m + 1 + 1 + j = (m + 1 + j) + 1 by omega, intermederef12_SameInts.l0, if_pos (by omega), if_pos (by omega), if_pos (by omega), if_pos (by omega), if_pos rfl, w64 (by omega)]
      exact ih (i + 1) j (by omega)
  refine ⟨l.length + 1, fun j => ?_⟩
  unfold intermederef12_SameInts.f
  rw [if_pos rfl]
  exact key l.length 0 j (by omega)

/-- The points of a text. -/
theorem points_read {n : Int} (h1 : 1 ≤ n) (h5 : n ≤ 5) (s : ByteArray) (hs : s.size ≤ 65536) : ∃ xs, Runs n s 0 xs ∧ xs.length ≤ s.size ∧ codeset_Points.f n s = some (ptsOf xs) ∧ codeset_Right.f n s = some (rightOf xs s.size) ∧ seqF (nxF 16 n) s (s.size + 1) 0 = some xs := by
  obtain ⟨xs, hx, hR, hl⟩ := seq_runs h1 h5 s (s.size + 1) 0 (by omega) (by omega)
  have ha : codeset_asked.f n s = some 0 := by
    unfold codeset_asked.f codeset_is.f
    rw [if_pos h1]
    simp only [Option.bind_some, decide_eq_true_eq]
    rw [if_pos h5, if_neg (by omega)]
  refine ⟨xs, hR, by omega, ?_, ?_, hx⟩
  · unfold codeset_Points.f
    rw [ha]
    simp only [Option.bind_some, if_true, hx]
    rw [if_pos (by omega)]
  · unfold codeset_Right.f
    rw [ha]
    simp only [Option.bind_some, if_true, hx]


theorem awake_c1 : codeset_Convert.f 2 3 (⟨#[228]⟩ : ByteArray) = some (⟨#[195, 164]⟩, 0, 0) := by kernel_rfl
theorem awake_c2 : codeset_Convert.f 3 1 (⟨#[97, 195, 164]⟩ : ByteArray) = some (⟨#[]⟩, 1, 7) := by kernel_rfl
theorem awake_ch : codeset_Choose.f 30 2 [3] 5 [3] = some (3, 0) := by kernel_rfl
theorem awake_ok : intermedelaw12_awake.f 30 = some true := by
  unfold intermedelaw12_awake.f
  rw [awake_c1, awake_c2, awake_ch]
  simp [Go.ByteArray.toList_eq]
theorem awake_all : ∀ j, intermedelaw12_awake.f (30 + j) = some true
  | 0 => awake_ok
  | j + 1 => intermedelaw12_awake.mono _ _ (awake_all j)
theorem awake_ge {k : Nat} (h : 30 ≤ k) : intermedelaw12_awake.f k = some true := by
  obtain ⟨j, rfl⟩ := Nat.exists_eq_add_of_le h
  exact awake_all j


theorem w_one : wrap64 1 = 1 := w64 (by omega)
theorem w_two : wrap64 2 = 2 := w64 (by omega)
theorem noneg_good : ∀ (xs : List (Int × Int)), NoNeg xs → goodP xs = xs.map (·.2)
  | [], _ => rfl
  | x :: xs, h => by
    have hx : ¬ x.2 < 0 := h x (List.mem_cons_self)
    simp only [goodP, if_neg hx, List.map_cons, noneg_good xs (fun y hy => h y (List.mem_cons_of_mem _ hy))]
theorem runs_cases {n : Int} (s : ByteArray) : ∀ (xs : List (Int × Int)) (a : Nat), Runs n s a xs → (badOf xs = -1 ∧ NoNeg xs ∧ (∀ p ∈ goodP xs, ∃ l, encL n p = some l)) ∨ (0 ≤ badOf xs ∧ (xs.any fun x => decide (x.2 < 0)) = true ∧ ∃ x, xs.find? (fun x => decide (x.2 < 0)) = some x ∧ x.1 = badOf xs)
  | [], a, _ => .inl ⟨rfl, fun y hy => absurd hy (by simp), fun p hp => absurd hp (by simp [goodP])⟩
  | x :: xs, a, hR => by
    obtain ⟨hx1, hl, hR⟩ := hR
    rcases hR with ⟨hm, rfl, hno⟩ | ⟨l, he, hp, hR⟩
    · right
      refine ⟨by simp [badOf, hm, hx1], by simp [hm], x, by simp [hm], by simp [badOf, hm]⟩
    · have hge : ¬ x.2 < 0 := by have := (encL_bytes he).2.2.2.1; omega
      have hd : decide (x.2 < 0) = false := decide_eq_false hge
      simp only [badOf, if_neg hge, goodP]
      rcases runs_cases s xs _ hR with ⟨h1, h2, h3⟩ | ⟨h1, h2, y, h3, h4⟩
      · left
        refine ⟨h1, fun y hy => ?_, fun p hp => ?_⟩
        · rcases List.mem_cons.1 hy with rfl | hy
          · exact hge
          · exact h2 y hy
        · rcases List.mem_cons.1 hp with rfl | hp
          · exact ⟨l, he⟩
          · exact h3 p hp
      · right
        exact ⟨h1, by simp [h2], y, by rw [List.find?_cons, hd]; exact h3, h4⟩
theorem pts_val {n : Int} {s : ByteArray} {xs : List (Int × Int)} {a : Nat} (h : Runs n s a xs) : ptsOf xs = if badOf xs ≥ 0 then ([], 12) else (goodP xs, 0) := by
  rcases runs_cases s xs a h with ⟨h1, h2, _⟩ | ⟨h1, h2, _⟩
  · rw [ptsOf_none h2, if_neg (by omega), noneg_good xs h2]
  · rw [if_pos h1]
    unfold ptsOf
    rw [if_pos h2]
theorem read_val {n : Int} (h1 : 1 ≤ n) (h5 : n ≤ 5) {s : ByteArray} (hs : s.size ≤ 65536) {xs : List (Int × Int)} (hR : Runs n s 0 xs) (hx : xs.length ≤ s.size) {k : Nat} (hk : s.size + 6 ≤ k) : intermederef12_read.f k n s = some (goodP xs, goodA xs, badOf xs) := by
  obtain ⟨j, rfl⟩ : ∃ j, k = j + xs.length + 6 := ⟨k - xs.length - 6, by omega⟩
  have := read_runs h1 h5 s hs j xs 0 [] [] hR (by simp; omega) (by simp; omega)
  simpa [intermederef12_read.f] using this
theorem ris_val (n : Int) : intermederef12_is.f n = some (decide (1 ≤ n ∧ n ≤ 5)) := by
  unfold intermederef12_is.f
  by_cases h1 : n ≥ 1
  · rw [if_pos h1]
    exact congrArg some (decide_eq_decide.2 (by omega))
  · rw [if_neg h1]
    exact congrArg some (decide_eq_false (by omega)).symm
set_option linter.unusedSimpArgs false in
theorem asked2 (a b : Int) (s : ByteArray) (hs : s.size ≤ 65536) : intermederef12_asked.f 5 s [a, b] = some (if (1 ≤ a ∧ a ≤ 5) ∧ (1 ≤ b ∧ b ≤ 5) then 0 else 1) := by
  unfold intermederef12_asked.f
  rw [intermederef12_asked.l0]
  simp only [List.length_cons, List.length_nil, ris_val, Option.bind_some]
  by_cases ha : 1 ≤ a ∧ a ≤ 5
  · by_cases hb : 1 ≤ b ∧ b ≤ 5
    · simp [rd, ha, hb, intermederef12_asked.l0, ris_val, w_one, w_two, show ¬ ((65536 : Int) < (s.size : Int)) by omega, show ¬ (65536 < s.size) by omega]
    · simp [rd, ha, hb, intermederef12_asked.l0, ris_val, w_one]
  · simp [rd, ha]
theorem long_val (s : ByteArray) {k : Nat} (hk : 3 ≤ k) : intermedelaw12_long.f k [s] = some (decide ((s.size : Int) > 2000)) := by
  obtain ⟨j, rfl⟩ : ∃ j, k = j + 3 := ⟨k - 3, by omega⟩
  unfold intermedelaw12_long.f
  rw [intermedelaw12_long.l0]
  by_cases h : (s.size : Int) > 2000
  · simp [rdOf, show (2000 : Int) < s.size by omega]
  · simp [rdOf, show ¬ ((2000 : Int) < s.size) by omega, intermedelaw12_long.l0, w_one]




theorem wr_some {b p : Int} (k1 : 1 ≤ b) (k5 : b ≤ 5) {l : List Int} (h : encL b p = some l) : wr b p = (strOfNums l, true) := by
  have hb := encL_bytes h
  have := wr_ok k1 k5 p hb.2.2.2.1 (by omega)
  rw [h] at this
  unfold wr
  rw [show wrF b p = some (strOfNums l, true) from this]
  rfl
theorem wr_none {b p : Int} (k1 : 1 ≤ b) (k5 : b ≤ 5) (h0 : 0 ≤ p) (h9 : p ≤ 1114111) (h : encL b p = none) : (wr b p).2 = false := by
  have := wr_ok k1 k5 p h0 (by omega)
  rw [h] at this
  obtain ⟨t, ht⟩ := this
  unfold wr
  rw [ht]
  rfl
theorem conv_eq {n b : Int} (k1 : 1 ≤ b) (k5 : b ≤ 5) (s : ByteArray) : ∀ (xs : List (Int × Int)) (a : Nat) (acc : List UInt8) (pre : List Int), Runs n s a xs → acc.length + 4 * xs.length ≤ 140737488355328 →
    convR (sgF b) (pre ++ goodA xs) (badOf xs) (goodP xs) pre.length acc = some (convOf (wr b) xs acc)
  | [], a, acc, pre, hR, _ => by
    simp only [goodP, badOf, convR, convOf]
    rw [if_neg (by omega)]
    split <;> rfl
  | x :: xs, a, acc, pre, hR, hl => by
    simp only [List.length_cons] at hl
    obtain ⟨hx1, hlt, hR⟩ := hR
    rcases hR with ⟨hm, rfl, hno⟩ | ⟨l, he, hp, hR⟩
    · have hx : x.2 < 0 := by omega
      simp only [goodP, badOf, convR, convOf, if_pos hx]
      rw [if_pos (by omega)]
    · have hb := encL_bytes he
      have hge : ¬ x.2 < 0 := by omega
      have hs := sgF_ok k1 k5 x.2
      simp only [goodP, goodA, badOf, convR, convOf, if_neg hge]
      cases hc : encL b x.2 with
      | none =>
        rw [hc] at hs
        obtain ⟨t, ht⟩ := hs
        rw [ht, wr_none k1 k5 (by omega) (by omega) hc]
        simp only [Option.bind_some, Bool.false_eq_true, if_false]
        rw [if_pos (by simp)]
        simp [rd]
      | some m =>
        rw [hc] at hs
        have hm := (encL_bytes hc).2.2.1
        rw [show sgF b x.2 = some (strOfNums m, true) from hs, wr_some k1 k5 hc]
        simp only [Option.bind_some, if_true]
        rw [if_pos (by rw [strOfNums_size]; omega), strOfNums_list]
        have ih := conv_eq k1 k5 s xs (a + l.length) (acc ++ byB m) (pre ++ [x.1]) hR (by rw [List.length_append, byB_length]; omega)
        rw [List.append_assoc, List.singleton_append, List.length_append, List.length_singleton] at ih
        exact ih
/-- What is known where Convert succeeds. -/
theorem conv_zero {n b : Int} (k1 : 1 ≤ b) (k5 : b ≤ 5) (s : ByteArray) : ∀ (xs : List (Int × Int)) (a : Nat) (acc : List UInt8), Runs n s a xs → (convOf (wr b) xs acc).2.2 = 0 → ∃ bs, byt b (goodP xs) = some bs ∧ badOf xs = -1 ∧ (acc ++ bs).length ≤ 65536 ∧ convOf (wr b) xs acc = (⟨(acc ++ bs).toArray⟩, 0, 0)
  | [], a, acc, hR, h => by
    refine ⟨[], rfl, rfl, ?_, ?_⟩
    · simp only [convOf] at h
      by_cases hbig : (acc.length : Int) > 65536
      · rw [if_pos hbig] at h; cases h
      · simp; omega
    · simp only [convOf] at h ⊢
      by_cases hbig : (acc.length : Int) > 65536
      · rw [if_pos hbig] at h; cases h
      · rw [if_neg hbig]; simp
  | x :: xs, a, acc, hR, h => by
    obtain ⟨hx1, hlt, hR⟩ := hR
    rcases hR with ⟨hm, rfl, hno⟩ | ⟨l, he, hp, hR⟩
    · have hx : x.2 < 0 := by omega
      simp only [convOf, if_pos hx] at h
      cases h
    · have hb := encL_bytes he
      have hge : ¬ x.2 < 0 := by omega
      simp only [goodP, badOf, convOf, if_neg hge, byt] at h ⊢
      cases hc : encL b x.2 with
      | none =>
        rw [wr_none k1 k5 (by omega) (by omega) hc] at h
        simp at h
      | some m =>
        rw [wr_some k1 k5 hc] at h ⊢
        simp only [if_true, Option.bind_some, strOfNums_list] at h ⊢
        obtain ⟨bs, h1, h2, h3, h4⟩ := conv_zero k1 k5 s xs _ _ hR h
        refine ⟨byB m ++ bs, by rw [h1]; rfl, h2, by rw [← List.append_assoc]; exact h3, by rw [h4, List.append_assoc]⟩
/-- Convert, of two code sets and a text that is short enough. -/
theorem convert_val {a b : Int} (h1 : 1 ≤ a) (h5 : a ≤ 5) (k1 : 1 ≤ b) (k5 : b ≤ 5) {s : ByteArray} (hs : s.size ≤ 65536) {xs : List (Int × Int)} (hx : xs.length ≤ s.size) (hq : seqF (nxF 16 a) s (s.size + 1) 0 = some xs) : codeset_Convert.f a b s = some (convOf (wr b) xs []) := by
  unfold codeset_Convert.f
  rw [if_pos ⟨⟨h1, h5⟩, k1, k5⟩, if_neg (by omega), hq]
  simp only [Option.bind_some]
  rw [if_pos (by omega)]
theorem convertR_val {a b : Int} (h1 : 1 ≤ a) (h5 : a ≤ 5) (k1 : 1 ≤ b) (k5 : b ≤ 5) {s : ByteArray} (hs : s.size ≤ 65536) {xs : List (Int × Int)} (hx : xs.length ≤ s.size) (hR : Runs a s 0 xs) : intermederef12_Convert.f a b s = some (convOf (wr b) xs []) := by
  unfold intermederef12_Convert.f
  rw [asked2 a b s hs, if_pos ⟨⟨h1, h5⟩, k1, k5⟩]
  simp only [Option.bind_some, if_true]
  rw [read_val h1 h5 hs hR hx (by omega)]
  simp only [Option.bind_some]
  have := goodP_length xs
  rw [if_pos (by omega)]
  have h := conv_eq k1 k5 s xs 0 [] [] hR (by simp; omega)
  simpa using h

theorem rd_at (l : List Int) (i : Nat) (h : i < l.length) : rd l (i : Int) = l[i] := by
  unfold rd
  simp [h]
theorem drop_mem (l : List Int) (x : Int) (i : Nat) (h : i < l.length) : x ∈ l.drop i ↔ (x = l[i] ∨ x ∈ l.drop (i + 1)) := by
  rw [List.drop_eq_getElem_cons h, List.mem_cons]
theorem index_val (l : List Int) (x : Int) (hl : l.length ≤ 1000000) (j : Nat) : ∀ (m i : Nat), i + m = l.length → ∃ r, slices_Index_int_int.l0 (m + 1 + j) l x (l.length : Int) i = some r ∧ (r ≥ 0 ↔ x ∈ l.drop i)
  | 0, i, h => by
    rw [show 0 + 1 + j = j + 1 by omega, slices_Index_int_int.l0, if_neg (by omega)]
    refine ⟨-1, rfl, ?_⟩
    rw [List.drop_eq_nil_of_le (by omega)]
    simp
  | m + 1, i, h => by
    rw [show m + 1 + 1 + j = (m + 1 + j) + 1 by omega, slices_Index_int_int.l0, if_pos (by omega), if_pos (by omega), if_pos (by omega), rd_at l i (by omega)]
    by_cases hx : x = l[i]
    · rw [if_pos hx]
      exact ⟨_, rfl, ⟨fun _ => (drop_mem l x i (by omega)).2 (.inl hx), fun _ => by omega⟩⟩
    · rw [if_neg hx, w64 (by omega)]
      obtain ⟨r, h1, h2⟩ := index_val l x hl j m (i + 1) (by omega)
      refine ⟨r, h1, h2.trans ?_⟩
      rw [drop_mem l x i (by omega)]
      simp [hx]
theorem contains_val (l : List Int) (x : Int) (hl : l.length ≤ 1000000) {k : Nat} (hk : l.length + 1 ≤ k) : slices_Contains_int_int.f k l x = some (decide (x ∈ l)) := by
  obtain ⟨j, rfl⟩ : ∃ j, k = l.length + 1 + j := ⟨k - l.length - 1, by omega⟩
  obtain ⟨r, h1, h2⟩ := index_val l x hl j l.length 0 (by omega)
  unfold slices_Contains_int_int.f slices_Index_int_int.f
  rw [show (0 : Int) = ((0 : Nat) : Int) by rfl, h1]
  simp only [Option.bind_some]
  exact congrArg some (decide_eq_decide.2 (by simpa using h2))
theorem has_loop (l : List Int) (x : Int) (hl : l.length ≤ 1000000) (j : Nat) : ∀ (m i : Nat), i + m = l.length → intermederef12_has.l0 (m + 1 + j) x l (l.length : Int) i = some (decide (x ∈ l.drop i))
  | 0, i, h => by
    rw [show 0 + 1 + j = j + 1 by omega, intermederef12_has.l0, if_neg (by omega), List.drop_eq_nil_of_le (by omega)]
    simp
  | m + 1, i, h => by
    rw [show m + 1 + 1 + j = (m + 1 + j) + 1 by omega, intermederef12_has.l0, if_pos (by omega), if_pos (by omega), if_pos (by omega), rd_at l i (by omega)]
    by_cases hx : l[i] = x
    · rw [if_pos hx]
      exact congrArg some (decide_eq_true ((drop_mem l x i (by omega)).2 (.inl hx.symm))).symm
    · rw [if_neg hx, w64 (by omega)]
      rw [show (i : Int) + 1 = ((i + 1 : Nat) : Int) by omega, has_loop l x hl j m (i + 1) (by omega)]
      exact congrArg some (decide_eq_decide.2 ⟨fun h => (drop_mem l x i (by omega)).2 (.inr h), fun h => ((drop_mem l x i (by omega)).1 h).resolve_left (fun e => hx e.symm)⟩)
theorem has_val (l : List Int) (x : Int) (hl : l.length ≤ 1000000) {k : Nat} (hk : l.length + 1 ≤ k) : intermederef12_has.f k l x = some (decide (x ∈ l)) := by
  obtain ⟨j, rfl⟩ : ∃ j, k = l.length + 1 + j := ⟨k - l.length - 1, by omega⟩
  unfold intermederef12_has.f
  have := has_loop l x hl j l.length 0 (by omega)
  simpa using this

/-- Whether the others are code sets, none of them the native one, none twice. -/
def okFrom (c : Int) : List Int → List Int → Bool
  | _, [] => true
  | pre, n :: l => if (1 ≤ n ∧ n ≤ 5) ∧ n ≠ c ∧ n ∉ pre then okFrom c (pre ++ [n]) l else false
def validOf (c : Int) (l : List Int) : Bool := okFrom c [] l && decide (1 ≤ c ∧ c ≤ 5)
theorem take_pre (pre rest : List Int) : (pre ++ rest).take ((pre.length : Int)).toNat = pre := by simp
theorem rd_pre (pre : List Int) (n : Int) (rest : List Int) : rd (pre ++ n :: rest) (pre.length : Int) = n := by
  unfold rd
  simp
theorem valid_loop (c : Int) (l : List Int) (hl : l.length ≤ 1000) (j : Nat) : ∀ (rest pre : List Int), l = pre ++ rest → codeset_Valid.l0 (rest.length + 1 + (l.length + 1 + j)) l (l.length : Int) (pre.length : Int) c l = some (okFrom c pre rest && decide (1 ≤ c ∧ c ≤ 5))
  | [], pre, h => by
    have hp : pre.length = l.length := by rw [h]; simp
    rw [show ([] : List Int).length + 1 + (l.length + 1 + j) = (l.length + 1 + j) + 1 by simp; omega, codeset_Valid.l0, if_neg (by omega), is_val]
    simp [okFrom]
  | n :: rest, pre, h => by
    have hp : l.length = pre.length + (rest.length + 1) := by rw [h]; simp
    have ih := valid_loop c l hl j rest (pre ++ [n]) (by rw [h]; simp)
    rw [show (n :: rest).length + 1 + (l.length + 1 + j) = (rest.length + 1 + (l.length + 1 + j)) + 1 by simp; omega, codeset_Valid.l0, if_pos (by omega), if_pos (by omega), if_pos (by omega)]
    have hr : rd l (pre.length : Int) = n := by rw [h]; exact rd_pre pre n rest
    have ht : l.take ((pre.length : Int)).toNat = pre := by rw [h]; exact take_pre pre _
    rw [hr, is_val, ht]
    simp only [Option.bind_some, decide_eq_true_eq]
    by_cases h1 : 1 ≤ n ∧ n ≤ 5
    · rw [if_pos h1]
      by_cases h2 : n = c
      · rw [if_pos h2]
        simp [okFrom, h2]
      · rw [if_neg h2, if_pos (by omega), contains_val pre n (by omega) (by omega)]
        simp only [Option.bind_some, decide_eq_true_eq]
        by_cases h3 : n ∈ pre
        · rw [if_pos h3]
          simp [okFrom, h3]
        · rw [if_neg h3, w64 (by omega), show (pre.length : Int) + 1 = ((pre ++ [n]).length : Int) by simp, ih]
          simp only [okFrom]
          rw [if_pos ⟨h1, h2, h3⟩]
    · rw [if_neg h1]
      simp [okFrom, h1]
theorem valid_val (c : Int) (l : List Int) (hl : l.length ≤ 1000) {k : Nat} (hk : 3000 ≤ k) : codeset_Valid.f k c l = some (validOf c l) := by
  obtain ⟨j, rfl⟩ : ∃ j, k = l.length + 1 + (l.length + 1 + j) := ⟨k - (l.length + 1 + (l.length + 1)), by omega⟩
  unfold codeset_Valid.f validOf
  have := valid_loop c l hl j l [] rfl
  simpa using this
theorem rvalid_loop (c : Int) (l : List Int) (hl : l.length ≤ 1000) (j : Nat) : ∀ (rest pre : List Int), l = pre ++ rest → intermederef12_Valid.l0 (rest.length + 1 + (l.length + 1 + j)) l (l.length : Int) (pre.length : Int) c l = some (okFrom c pre rest)
  | [], pre, h => by
    have hp : pre.length = l.length := by rw [h]; simp
    rw [show ([] : List Int).length + 1 + (l.length + 1 + j) = (l.length + 1 + j) + 1 by simp; omega, intermederef12_Valid.l0, if_neg (by omega)]
    rfl
  | n :: rest, pre, h => by
    have hp : l.length = pre.length + (rest.length + 1) := by rw [h]; simp
    have ih := rvalid_loop c l hl j rest (pre ++ [n]) (by rw [h]; simp)
    rw [show (n :: rest).length + 1 + (l.length + 1 + j) = (rest.length + 1 + (l.length + 1 + j)) + 1 by simp; omega, intermederef12_Valid.l0, if_pos (by omega), if_pos (by omega), if_pos (by omega)]
    have hr : rd l (pre.length : Int) = n := by rw [h]; exact rd_pre pre n rest
    have ht : l.take ((pre.length : Int)).toNat = pre := by rw [h]; exact take_pre pre _
    rw [hr, ris_val, ht]
    simp only [Option.bind_some, decide_eq_true_eq]
    by_cases h1 : 1 ≤ n ∧ n ≤ 5
    · rw [if_pos h1]
      by_cases h2 : n = c
      · rw [if_pos h2]
        simp [okFrom, h2]
      · rw [if_neg h2, if_pos (by omega), has_val pre n (by omega) (by omega)]
        simp only [Option.bind_some, decide_eq_true_eq]
        by_cases h3 : n ∈ pre
        · rw [if_pos h3]
          simp [okFrom, h3]
        · rw [if_neg h3, w64 (by omega), show (pre.length : Int) + 1 = ((pre ++ [n]).length : Int) by simp, ih]
          simp only [okFrom]
          rw [if_pos ⟨h1, h2, h3⟩]
    · rw [if_neg h1]
      simp [okFrom, h1]
theorem ok_count (c : Int) : ∀ (l pre : List Int), okFrom c pre l = true → (∀ x ∈ l, 1 ≤ x ∧ x ≤ 5) ∧ ∀ v, l.count v ≤ (if v ∈ pre then 0 else 1)
  | [], pre, _ => ⟨fun x hx => absurd hx (by simp), fun v => by simp⟩
  | n :: l, pre, h => by
    simp only [okFrom] at h
    by_cases hc : (1 ≤ n ∧ n ≤ 5) ∧ n ≠ c ∧ n ∉ pre
    · rw [if_pos hc] at h
      obtain ⟨h1, h2⟩ := ok_count c l (pre ++ [n]) h
      refine ⟨fun x hx => ?_, fun v => ?_⟩
      · rcases List.mem_cons.1 hx with rfl | hx
        · exact hc.1
        · exact h1 x hx
      · have hv := h2 v
        rw [List.count_cons]
        by_cases e : n = v
        · subst e
          rw [if_pos (by simp)] at hv
          rw [if_neg hc.2.2]
          simp
          omega
        · have e' : (n == v) = false := by simpa using e
          rw [e', if_neg (by decide)]
          by_cases hm : v ∈ pre
          · rw [if_pos (by simp [hm])] at hv
            rw [if_pos hm]
            omega
          · rw [if_neg (by simp [hm]; exact fun h => e h.symm)] at hv
            rw [if_neg hm]
            omega
    · rw [if_neg hc] at h
      cases h
theorem len_count : ∀ (l : List Int), (∀ x ∈ l, 1 ≤ x ∧ x ≤ 5) → l.length = l.count 1 + l.count 2 + l.count 3 + l.count 4 + l.count 5
  | [], _ => rfl
  | n :: l, h => by
    have ih := len_count l (fun x hx => h x (List.mem_cons_of_mem _ hx))
    have hn := h n (List.mem_cons_self)
    rw [List.length_cons, ih]
    rcases five hn.1 hn.2 with rfl | rfl | rfl | rfl | rfl <;> simp <;> omega
theorem ok_five {c : Int} {l : List Int} (h : okFrom c [] l = true) : l.length ≤ 5 := by
  obtain ⟨h1, h2⟩ := ok_count c l [] h
  have a1 := h2 1
  have a2 := h2 2
  have a3 := h2 3
  have a4 := h2 4
  have a5 := h2 5
  simp only [List.not_mem_nil, if_false] at a1 a2 a3 a4 a5
  rw [len_count l h1]
  omega
theorem rvalid_val (c : Int) (l : List Int) (hl : l.length ≤ 1000) {k : Nat} (hk : 3001 ≤ k) : intermederef12_Valid.f k c l = some (validOf c l) := by
  obtain ⟨j, rfl⟩ : ∃ j, k = (l.length + 1 + (l.length + 1 + j)) + 1 := ⟨k - (l.length + 1 + (l.length + 1)) - 1, by omega⟩
  unfold intermederef12_Valid.f validOf
  rw [ris_val]
  simp only [Option.bind_some, decide_eq_true_eq]
  by_cases hc : 1 ≤ c ∧ c ≤ 5
  · rw [if_pos hc, intermederef12_Valid.j0]
    simp only [decide_eq_true_eq]
    by_cases h5 : (l.length : Int) > 5
    · rw [if_pos h5]
      have : okFrom c [] l = false := by
        cases ho : okFrom c [] l with
        | false => rfl
        | true => have := ok_five ho; omega
      rw [this]
      rfl
    · rw [if_neg h5]
      have := rvalid_loop c l hl j l [] rfl
      simp only [List.length_nil] at this
      rw [show (0 : Int) = ((0 : Nat) : Int) by rfl, this]
      simp [hc]
  · rw [if_neg hc, intermederef12_Valid.j0, if_pos rfl]
    simp [hc]

theorem speaks_val (c : Int) (l : List Int) (x : Int) (hl : l.length ≤ 1000) {k : Nat} (hk : l.length + 1 ≤ k) : codeset_speaks.f k c l x = some (decide (c = x ∨ x ∈ l)) := by
  unfold codeset_speaks.f
  by_cases h : c = x
  · rw [if_pos h]
    simp [h]
  · rw [if_neg h, contains_val l x (by omega) hk]
    simp [h]
theorem rspeaks_val (c : Int) (l : List Int) (x : Int) (hl : l.length ≤ 1000) {k : Nat} (hk : l.length + 1 ≤ k) : intermederef12_speaks.f k c l x = some (decide (c = x ∨ x ∈ l)) := by
  unfold intermederef12_speaks.f
  by_cases h : c = x
  · rw [if_pos h]
    simp [h]
  · rw [if_neg h, has_val l x (by omega) hk]
    simp [h]
/-- The first of a list that the other side speaks too. -/
def pickOf (c : Int) (l : List Int) (d : Int × Int) : List Int → Int × Int
  | [] => d
  | n :: r => if c = n ∨ n ∈ l then (n, 0) else pickOf c l d r
def lastOf (a b : Int) : Int × Int := if ((a == 4) != (b == 4)) = true then (0, 8) else (3, 0)
theorem choose_loop (a : Int) (la : List Int) (b : Int) (lb : List Int) (ha : la.length ≤ 1000) (hb : lb.length ≤ 1000) (j : Nat) : ∀ (rest pre : List Int), la = pre ++ rest →
    codeset_Choose.l0 (rest.length + 1 + (lb.length + 1 + j)) la (la.length : Int) (pre.length : Int) a la b lb = some (pickOf b lb (lastOf a b) rest)
  | [], pre, h => by
    have hp : pre.length = la.length := by rw [h]; simp
    rw [show ([] : List Int).length + 1 + (lb.length + 1 + j) = (lb.length + 1 + j) + 1 by simp; omega, codeset_Choose.l0, if_neg (by omega)]
    unfold pickOf lastOf
    split <;> rfl
  | n :: rest, pre, h => by
    have hp : la.length = pre.length + (rest.length + 1) := by rw [h]; simp
    have ih := choose_loop a la b lb ha hb j rest (pre ++ [n]) (by rw [h]; simp)
    rw [show (n :: rest).length + 1 + (lb.length + 1 + j) = (rest.length + 1 + (lb.length + 1 + j)) + 1 by simp; omega, codeset_Choose.l0, if_pos (by omega), if_pos (by omega), if_pos (by omega)]
    have hr : rd la (pre.length : Int) = n := by rw [h]; exact rd_pre pre n rest
    rw [hr, speaks_val b lb n hb (by omega)]
    simp only [Option.bind_some, decide_eq_true_eq, pickOf]
    by_cases h1 : b = n ∨ n ∈ lb
    · rw [if_pos h1, if_pos h1]
    · rw [if_neg h1, if_neg h1, w64 (by omega), show (pre.length : Int) + 1 = ((pre ++ [n]).length : Int) by simp, ih]
theorem rchoose_loop (a : Int) (la : List Int) (b : Int) (lb : List Int) (ha : la.length ≤ 1000) (hb : lb.length ≤ 1000) (j : Nat) : ∀ (rest pre : List Int), la = pre ++ rest →
    intermederef12_Choose.l0 (rest.length + 1 + (lb.length + 1 + j)) la (la.length : Int) (pre.length : Int) a la b lb = some (pickOf b lb (lastOf a b) rest)
  | [], pre, h => by
    have hp : pre.length = la.length := by rw [h]; simp
    rw [show ([] : List Int).length + 1 + (lb.length + 1 + j) = (lb.length + 1 + j) + 1 by simp; omega, intermederef12_Choose.l0, if_neg (by omega)]
    unfold pickOf lastOf
    split <;> rfl
  | n :: rest, pre, h => by
    have hp : la.length = pre.length + (rest.length + 1) := by rw [h]; simp
    have ih := rchoose_loop a la b lb ha hb j rest (pre ++ [n]) (by rw [h]; simp)
    rw [show (n :: rest).length + 1 + (lb.length + 1 + j) = (rest.length + 1 + (lb.length + 1 + j)) + 1 by simp; omega, intermederef12_Choose.l0, if_pos (by omega), if_pos (by omega), if_pos (by omega)]
    have hr : rd la (pre.length : Int) = n := by rw [h]; exact rd_pre pre n rest
    rw [hr, rspeaks_val b lb n hb (by omega)]
    simp only [Option.bind_some, decide_eq_true_eq, pickOf]
    by_cases h1 : b = n ∨ n ∈ lb
    · rw [if_pos h1, if_pos h1]
    · rw [if_neg h1, if_neg h1, w64 (by omega), show (pre.length : Int) + 1 = ((pre ++ [n]).length : Int) by simp, ih]
/-- What Choose answers. -/
def chooseOf (a : Int) (la : List Int) (b : Int) (lb : List Int) : Int × Int :=
  if validOf a la = true then (if validOf b lb = true then (if a = b ∨ b ∈ la then (b, 0) else if b = a ∨ a ∈ lb then (a, 0) else pickOf b lb (lastOf a b) la) else (0, 1)) else (0, 1)
theorem choose_val (a : Int) (la : List Int) (b : Int) (lb : List Int) (ha : la.length ≤ 1000) (hb : lb.length ≤ 1000) {k : Nat} (hk : 4000 ≤ k) : codeset_Choose.f k a la b lb = some (chooseOf a la b lb) := by
  obtain ⟨j, rfl⟩ : ∃ j, k = (la.length + 1 + (lb.length + 1 + j)) + 1 := ⟨k - (la.length + 1 + (lb.length + 1)) - 1, by omega⟩
  unfold codeset_Choose.f chooseOf
  rw [valid_val a la ha (by omega), valid_val b lb hb (by omega)]
  simp only [Option.bind_some]
  by_cases h1 : validOf a la = true
  · rw [if_pos h1, if_pos h1, codeset_Choose.j0]
    by_cases h2 : validOf b lb = true
    · rw [if_neg (by rw [h2]; decide), if_pos h2, speaks_val a la b ha (by omega), speaks_val b lb a hb (by omega)]
      simp only [Option.bind_some, decide_eq_true_eq]
      have := choose_loop a la b lb ha hb j la [] rfl
      simp only [List.length_nil] at this
      rw [show (0 : Int) = ((0 : Nat) : Int) by rfl, this]
      (repeat' split) <;> rfl
    · rw [if_pos (by simpa using h2), if_neg h2]
  · rw [if_neg h1, if_neg h1, codeset_Choose.j0, if_pos rfl]
theorem rchoose_val (a : Int) (la : List Int) (b : Int) (lb : List Int) (ha : la.length ≤ 1000) (hb : lb.length ≤ 1000) {k : Nat} (hk : 4000 ≤ k) : intermederef12_Choose.f k a la b lb = some (chooseOf a la b lb) := by
  obtain ⟨j, rfl⟩ : ∃ j, k = (la.length + 1 + (lb.length + 1 + j)) + 1 := ⟨k - (la.length + 1 + (lb.length + 1)) - 1, by omega⟩
  unfold intermederef12_Choose.f chooseOf
  rw [rvalid_val a la ha (by omega), rvalid_val b lb hb (by omega)]
  simp only [Option.bind_some]
  by_cases h1 : validOf a la = true
  · rw [if_pos h1, if_pos h1, intermederef12_Choose.j0]
    by_cases h2 : validOf b lb = true
    · rw [if_neg (by rw [h2]; decide), if_pos h2, rspeaks_val a la b ha (by omega), rspeaks_val b lb a hb (by omega)]
      simp only [Option.bind_some, decide_eq_true_eq]
      have := rchoose_loop a la b lb ha hb j la [] rfl
      simp only [List.length_nil] at this
      rw [show (0 : Int) = ((0 : Nat) : Int) by rfl, this]
      (repeat' split) <;> rfl
    · rw [if_pos (by simpa using h2), if_neg h2]
  · rw [if_neg h1, if_neg h1, intermederef12_Choose.j0, if_pos rfl]

/-- Convert: both answer the same; where they succeed, both texts have the same points. -/
theorem convert_both (a b : Int) (s : ByteArray) (hs : s.size ≤ 65536) : ∃ r, codeset_Convert.f a b s = some r ∧ intermederef12_Convert.f a b s = some r ∧ (r.2.2 = 0 → r.1.size ≤ 65536 ∧ ∃ ps, ps.length ≤ s.size ∧ codeset_Points.f a s = some (ps, 0) ∧ codeset_Points.f b r.1 = some (ps, 0)) := by
  by_cases hv : (1 ≤ a ∧ a ≤ 5) ∧ (1 ≤ b ∧ b ≤ 5)
  · obtain ⟨⟨h1, h5⟩, k1, k5⟩ := hv
    obtain ⟨xs, hR, hx, hP, _, hq⟩ := points_read h1 h5 s hs
    refine ⟨_, convert_val h1 h5 k1 k5 hs hx hq, convertR_val h1 h5 k1 k5 hs hx hR, fun h0 => ?_⟩
    obtain ⟨bs, hb, hbad, hlen, he⟩ := conv_zero k1 k5 s xs 0 [] hR h0
    rw [he]
    rw [List.nil_append] at hlen ⊢
    have hsz : (⟨bs.toArray⟩ : ByteArray).size = bs.length := by show bs.toArray.size = _; simp
    obtain ⟨ys, hyR, hy, hPy, _, _⟩ := points_read k1 k5 (⟨bs.toArray⟩ : ByteArray) (by omega)
    have hback := runs_back k1 k5 _ (goodP xs) ys 0 (by omega) hyR (by simpa using hb)
    refine ⟨by show (⟨bs.toArray⟩ : ByteArray).size ≤ 65536; omega, goodP xs, ?_, ?_, ?_⟩
    · have := goodP_length xs
      omega
    · rw [hP, pts_val hR, if_neg (by omega)]
    · show codeset_Points.f b ⟨bs.toArray⟩ = _
      rw [hPy, pts_val hyR, if_neg (by omega), hback.2.1]
  · refine ⟨(⟨#[]⟩, 0, 1), ?_, ?_, fun h => by cases h⟩
    · unfold codeset_Convert.f
      rw [if_neg hv]
    · unfold intermederef12_Convert.f
      rw [asked2 a b s hs, if_neg hv]
      rfl


end Go.Proofs.Yteioboechlnogaa.P
namespace Go.Proofs.Yteioboechlnogaa.Pure
open Go.RowKit Go.Proofs.Yteioboechlnogaa.P Go.Proofs.YteioboechlnogaaW.PrintWords Go.Proofs.YteioboechlnogaaW.PrintLast

theorem carry_both (a : Int) (la : List Int) (b : Int) (lb : List Int) (s : ByteArray) (ha : la.length ≤ 1000) (hb : lb.length ≤ 1000) (hs : s.size ≤ 65536) (k : Nat) :
    ∃ C, codeset_Carry.f (k + 5000 + 1 + 1) a la b lb s = some C ∧ intermederef12_Carry.f (k + 5000 + 1 + 1) a la b lb s = some C ∧ (C.2.2 = 0 → ∃ ps, ps.length ≤ s.size ∧ codeset_Points.f a s = some (ps, 0) ∧ codeset_Points.f b C.2.1 = some (ps, 0)) := by
  unfold codeset_Carry.f intermederef12_Carry.f
  rw [valid_val a la ha (by omega), valid_val b lb hb (by omega), rvalid_val a la ha (by omega), rvalid_val b lb hb (by omega)]
  simp only [Option.bind_some]
  by_cases h1 : validOf a la = true
  · rw [if_pos h1, if_pos h1, codeset_Carry.j0, intermederef12_Carry.j0]
    by_cases h2 : validOf b lb = true
    · have hf : ¬ (!validOf b lb) = true := by rw [h2]; decide
      rw [if_neg hf, if_neg hf, if_neg (by omega), if_neg (by omega), choose_val a la b lb ha hb (by omega), rchoose_val a la b lb ha hb (by omega)]
      simp only [Option.bind_some]
      by_cases he : (chooseOf a la b lb).2 = 0
      · rw [if_pos he, if_pos he]
        obtain ⟨r, hr1, hr2, hr3⟩ := convert_both a (chooseOf a la b lb).1 s hs
        rw [hr1, hr2]
        simp only [Option.bind_some]
        rw [intermederef12_Carry.j1]
        by_cases h0 : r.2.2 = 0
        · rw [if_pos h0, if_pos h0]
          obtain ⟨hsz, ps, hl, hp1, hp2⟩ := hr3 h0
          obtain ⟨q, hq1, hq2, hq3⟩ := convert_both (chooseOf a la b lb).1 b r.1 hsz
          rw [hq1, hq2]
          simp only [Option.bind_some]
          by_cases h4 : q.2.2 = 0
          · rw [if_pos h4]
            refine ⟨_, rfl, rfl, fun _ => ⟨ps, hl, hp1, ?_⟩⟩
            obtain ⟨_, qs, _, g1, g2⟩ := hq3 h4
            rw [hp2] at g1
            have e := congrArg Prod.fst (Option.some.inj g1)
            simp only at e
            rw [e]
            exact g2
          · rw [if_neg h4]
            exact ⟨_, rfl, rfl, fun h => absurd h h4⟩
        · rw [if_neg h0, if_neg h0]
          exact ⟨_, rfl, rfl, fun h => absurd h h0⟩
      · rw [if_neg he, if_neg he, intermederef12_Carry.j1, if_neg he]
        exact ⟨_, rfl, rfl, fun h => absurd h he⟩
    · have hf : (!validOf b lb) = true := by simpa using h2
      rw [if_pos hf, if_pos hf]
      exact ⟨_, rfl, rfl, fun h => by cases h⟩
  · rw [if_neg h1, if_neg h1, codeset_Carry.j0, intermederef12_Carry.j0, if_pos rfl, if_pos rfl]
    exact ⟨_, rfl, rfl, fun h => by cases h⟩

/-- Of all inputs. -/
theorem CodesetCarries (a : Int) (la : List Int) (b : Int) (lb : List Int) (s : ByteArray) : ∃ k, intermedelaw12_CodesetCarries.f k a la b lb s = some true := by
  have hawake : ∀ k, 31 ≤ k → intermedelaw12_CodesetCarries.j0 k s true a la b lb = some true := by
    intro k hk
    obtain ⟨j, rfl⟩ : ∃ j, k = j + 1 := ⟨k - 1, by omega⟩
    rw [intermedelaw12_CodesetCarries.j0, if_pos rfl, awake_ge (by omega)]
    rfl
  by_cases hl : (s.size : Int) > 2000
  · refine ⟨40, ?_⟩
    unfold intermedelaw12_CodesetCarries.f
    rw [long_val s (by omega), decide_eq_true hl]
    simp only [Option.bind_some, if_true]
    exact hawake 40 (by omega)
  · have hs : s.size ≤ 65536 := by omega
    by_cases ha : (la.length : Int) > 50
    · refine ⟨40, ?_⟩
      unfold intermedelaw12_CodesetCarries.f
      rw [long_val s (by omega), decide_eq_false hl]
      simp only [Option.bind_some, Bool.false_eq_true, if_false]
      rw [if_pos ha]
      exact hawake 40 (by omega)
    · by_cases hb : (lb.length : Int) > 50
      · refine ⟨40, ?_⟩
        unfold intermedelaw12_CodesetCarries.f
        rw [long_val s (by omega), decide_eq_false hl]
        simp only [Option.bind_some, Bool.false_eq_true, if_false]
        rw [if_neg ha, decide_eq_true hb]
        exact hawake 40 (by omega)
      · have key : ∃ k0, ∀ j, ∀ C : ByteArray × ByteArray × Int, codeset_Carry.f 5002 a la b lb s = some C → C.2.2 = 0 → ∃ ps, codeset_Points.f a s = some (ps, 0) ∧ codeset_Points.f b C.2.1 = some (ps, 0) ∧ intermederef12_SameInts.f (k0 + j) ps ps = some true := by
          obtain ⟨C, h1, _, h3⟩ := carry_both a la b lb s (by omega) (by omega) hs 0
          by_cases h0 : C.2.2 = 0
          · obtain ⟨ps, hps, hp1, hp2⟩ := h3 h0
            obtain ⟨k0, hk⟩ := same_self ps (by omega)
            refine ⟨k0, fun j C' hC' _ => ?_⟩
            rw [h1] at hC'
            obtain rfl := Option.some.inj hC'
            exact ⟨ps, hp1, hp2, hk j⟩
          · refine ⟨0, fun j C' hC' hz => ?_⟩
            rw [h1] at hC'
            obtain rfl := Option.some.inj hC'
            exact absurd hz h0
        obtain ⟨k0, hk0⟩ := key
        obtain ⟨C0, z1, _, _⟩ := carry_both a la b lb s (by omega) (by omega) hs 0
        obtain ⟨C, h1, h2, _⟩ := carry_both a la b lb s (by omega) (by omega) hs k0
        have hmono : ∀ j, codeset_Carry.f (5002 + j) a la b lb s = some C0 := by
          intro j
          induction j with
          | zero => exact z1
          | succ j ih => exact codeset_Carry.mono a la b lb s _ _ ih
        have hC : C = C0 := by
          have := hmono k0
          rw [show 5002 + k0 = k0 + 5000 + 1 + 1 by omega, h1] at this
          exact Option.some.inj this
        refine ⟨(k0 + 5000 + 1 + 1) + 1, ?_⟩
        unfold intermedelaw12_CodesetCarries.f
        rw [long_val s (by omega), decide_eq_false hl]
        simp only [Option.bind_some, Bool.false_eq_true, if_false]
        rw [if_neg ha, decide_eq_false hb, intermedelaw12_CodesetCarries.j0, if_neg (by decide), h1, h2]
        simp only [Option.bind_some, if_true, bne_self_eq_false]
        rw [show k0 + 5000 + 1 + 1 = (k0 + 5000 + 1) + 1 by omega, intermedelaw12_CodesetCarries.j1, if_neg (by decide)]
        rw [awake_ge (show 30 ≤ k0 + 5000 + 1 by omega)]
        by_cases h0 : C.2.2 = 0
        · rw [if_pos h0]
          obtain ⟨ps, hp1, hp2, hsame⟩ := hk0 (5000 + 1) C (by rw [hC]; exact z1) h0
          rw [hp1, hp2]
          simp only [Option.bind_some, if_true]
          rw [show k0 + 5000 + 1 = k0 + (5000 + 1) by omega, hsame]
          rfl
        · rw [if_neg h0]
          rfl

end Go.Proofs.Yteioboechlnogaa.Pure
