import Derived.Test.YteioboechlnogaaLB
import Derived.Test.YteioboechlnogaaLD
import Derived.Test.YteioboechlnogaaPx4
import Derived.Test.YteioboechlnogaaGP
import Derived.Test.YteioboechlnogaaGX
import Derived.Test.YteioboechlnogaaPx7
import Derived.Test.YteioboechlnogaaPx6
import Derived.Test.YteioboechlnogaaLA
import Derived.Test.YteioboechlnogaaPx8
import Derived.Test.YteioboechlnogaaPx13
/-
  The plain law of the code sets: runs over a text's points, Text, Points, Right, and what is asked ahead of them.
-/
namespace Go.Proofs.Yteioboechlnogaa.P
open Go.Shelf Go.RowKit Go.Proofs.YteioboechlnogaaW.PrintWords Go.Proofs.YteioboechlnogaaW.PrintLast Go.Proofs.YteioboechlnogaaW.PrintMore

def byB (l : List Int) : List UInt8 := l.map fun n => UInt8.ofNat n.toNat
theorem byB_length (l : List Int) : (byB l).length = l.length := by simp [byB]
theorem strOfNums_list (l : List Int) : (strOfNums l).data.toList = byB l := by simp [strOfNums, byB]
/-- The bytes of points; none where one has no sign. -/
def byt (n : Int) : List Int → Option (List UInt8)
  | [] => some []
  | p :: ps => (encL n p).bind fun l => (byt n ps).map fun t => byB l ++ t

/-- What a run over a text's points meets from a place on. -/
def Runs (n : Int) (s : ByteArray) : Nat → List (Int × Int) → Prop
  | at_, [] => at_ = s.size
  | at_, x :: xs => x.1 = at_ ∧ at_ < s.size ∧ ((x.2 = -1 ∧ xs = [] ∧ ∀ p l, encL n p = some l → ¬ Pre l (s.extract at_ s.size)) ∨ (∃ l, encL n x.2 = some l ∧ Pre l (s.extract at_ s.size) ∧ Runs n s (at_ + l.length) xs))

theorem ext_size (s : ByteArray) {a : Nat} (h : a ≤ s.size) : (s.extract a s.size).size = s.size - a := by
  rw [ByteArray.size_extract]
  omega
theorem ext_list (s : ByteArray) (a : Nat) : (s.extract a s.size).data.toList = s.data.toList.drop a := by
  rw [ByteArray.data_extract, Array.toList_extract, List.extract_eq_take_drop]
  apply List.take_of_length_le
  simp
theorem pre_iff {n p : Int} {l : List Int} (he : encL n p = some l) (s : ByteArray) {a : Nat} (ha : a ≤ s.size) : Pre l (s.extract a s.size) ↔ a + l.length ≤ s.size ∧ (s.data.toList.drop a).take l.length = byB l := by
  have hb := encL_bytes he
  have key := preAt_iff (s.extract a s.size) l 0 hb.1
  unfold Pre
  rw [show (0 : Int) = ((0 : Nat) : Int) by rfl, key, ext_list, ext_size s ha]
  simp only [Nat.zero_add, List.drop_zero, hb.2.1, or_false]
  constructor
  · rintro ⟨h1, h2⟩
    exact ⟨by omega, h2⟩
  · rintro ⟨h1, h2⟩
    exact ⟨by omega, h2⟩
theorem pos_len {n p : Int} {l : List Int} (he : encL n p = some l) : 1 ≤ l.length := by
  have hb := encL_bytes he
  cases l with
  | nil => exact absurd rfl hb.2.1
  | cons a l => simp

theorem seq_runs {n : Int} (h1 : 1 ≤ n) (h5 : n ≤ 5) (s : ByteArray) : ∀ (fuel a : Nat), a ≤ s.size → s.size < fuel + a → ∃ xs, seqF (nxF 16 n) s fuel a = some xs ∧ Runs n s a xs ∧ xs.length ≤ s.size - a
  | 0, a, ha, hf => by omega
  | fuel + 1, a, ha, hf => by
    rw [seqF]
    by_cases hl : a < s.size
    · rw [if_pos hl]
      have hsz := ext_size s ha
      have hn := next_ok h1 h5 (s.extract a s.size) (by omega)
      cases hr : nxF 16 n (s.extract a s.size) with
      | none => rw [hr] at hn; exact hn.elim
      | some r =>
        rw [hr] at hn
        simp only [Option.bind_some]
        rcases hn with ⟨h0, hno⟩ | ⟨l, he, hp, hk⟩
        · rw [if_pos h0]
          exact ⟨_, rfl, ⟨rfl, hl, .inl ⟨rfl, rfl, hno⟩⟩, by simp; omega⟩
        · have hlen := pos_len he
          have hle := (encL_bytes he).2.2.1
          rw [if_neg (by omega), if_pos (by omega)]
          obtain ⟨hfit, _⟩ := (pre_iff he s ha).1 hp
          have hkn : r.2.toNat = l.length := by omega
          rw [hkn]
          obtain ⟨xs, hx, hR, hxl⟩ := seq_runs h1 h5 s fuel (a + l.length) (by omega) (by omega)
          rw [hx]
          exact ⟨_, rfl, ⟨rfl, hl, .inr ⟨l, he, hp, hR⟩⟩, by simp; omega⟩
    · rw [if_neg hl]
      exact ⟨[], rfl, by show a = s.size; omega, by simp⟩

/-- The points up to the first wrong one; their places; the first wrong one's place. -/
def goodP : List (Int × Int) → List Int
  | [] => []
  | x :: xs => if x.2 < 0 then [] else x.2 :: goodP xs
def goodA : List (Int × Int) → List Int
  | [] => []
  | x :: xs => if x.2 < 0 then [] else x.1 :: goodA xs
def badOf : List (Int × Int) → Int
  | [] => -1
  | x :: xs => if x.2 < 0 then x.1 else badOf xs
theorem goodP_length (xs : List (Int × Int)) : (goodP xs).length ≤ xs.length := by
  induction xs with
  | nil => simp [goodP]
  | cons x xs ih =>
    unfold goodP
    split <;> simp <;> omega
theorem good_lengths (xs : List (Int × Int)) : (goodA xs).length = (goodP xs).length := by
  induction xs with
  | nil => rfl
  | cons x xs ih =>
    unfold goodP goodA
    split
    · rfl
    · simp [ih]

theorem read_runs {n : Int} (h1 : 1 ≤ n) (h5 : n ≤ 5) (s : ByteArray) (hs : s.size ≤ 65536) (k : Nat) : ∀ (xs : List (Int × Int)) (a : Nat) (P Q : List Int), Runs n s a xs → P.length + xs.length ≤ 1000000 → Q.length + xs.length ≤ 1000000 →
    intermederef12_read.l0 (k + xs.length + 6) n s P Q a = some (P ++ goodP xs, Q ++ goodA xs, badOf xs)
  | [], a, P, Q, hR, _, _ => by
    have ha : a = s.size := hR
    rw [intermederef12_read.l0, if_neg (by omega)]
    simp [goodP, goodA, badOf]
  | x :: xs, a, P, Q, hR, hP, hQ => by
    obtain ⟨hx1, hl, hR⟩ := hR
    simp only [List.length_cons] at hP hQ
    rw [show k + (x :: xs).length + 6 = (k + xs.length + 6) + 1 by simp; omega, intermederef12_read.l0, if_pos (by omega), if_pos (by omega), if_pos (by omega)]
    rw [show ((a : Int)).toNat = a by simp]
    have hf := first_ok h1 h5 (s.extract a s.size) (k + xs.length + 2)
    rw [show k + xs.length + 2 + 4 = k + xs.length + 6 by omega] at hf
    cases hr : intermederef12_first.f (k + xs.length + 6) n (s.extract a s.size) with
    | none => rw [hr] at hf; exact hf.elim
    | some r =>
      rw [hr] at hf
      simp only [Option.bind_some]
      rcases hR with ⟨hm, rfl, hno⟩ | ⟨l, he, hp, hR⟩
      · rcases hf with ⟨_, l, he, hp, _⟩ | ⟨hb, _⟩
        · exact absurd hp (hno _ _ he)
        · rw [if_neg (by rw [hb]; decide)]
          simp [goodP, goodA, badOf, hm, hx1]
      · have hge : ¬ x.2 < 0 := by have := (encL_bytes he).2.2.2.1; omega
        rcases hf with ⟨hb, l', he', hp', hm⟩ | ⟨_, hno⟩
        · obtain ⟨hq, rfl⟩ := uni h1 h5 he hp he' hp'
          have hlen := (encL_bytes he).2.2.1
          rw [if_pos hb, if_pos (by omega), if_pos (by omega), hm, w64 (by omega), ← hq]
          rw [show ((a : Int) + (l.length : Int)) = ((a + l.length : Nat) : Int) by omega]
          rw [read_runs h1 h5 s hs k xs (a + l.length) _ _ hR (by simp; omega) (by simp; omega)]
          simp [goodP, goodA, badOf, hge, hx1]
        · exact absurd hp (hno _ _ he)

/-- Of a text that is right: its points' bytes are the text's. -/
theorem runs_bytes {n : Int} (s : ByteArray) : ∀ (xs : List (Int × Int)) (a : Nat), Runs n s a xs → badOf xs = -1 → byt n (goodP xs) = some (s.data.toList.drop a)
  | [], a, hR, _ => by
    have ha : a = s.size := hR
    have hz : s.data.toList.drop a = [] := by
      apply List.drop_eq_nil_of_le
      rw [ha, Array.length_toList]
      exact Nat.le_refl _
    rw [hz]
    rfl
  | x :: xs, a, hR, hb => by
    obtain ⟨hx1, hl, hR⟩ := hR
    rcases hR with ⟨hm, rfl, hno⟩ | ⟨l, he, hp, hR⟩
    · simp [badOf, hm, hx1] at hb
    · have hge : ¬ x.2 < 0 := by have := (encL_bytes he).2.2.2.1; omega
      simp only [badOf, if_neg hge] at hb
      simp only [goodP, if_neg hge, byt, he, Option.bind_some]
      rw [runs_bytes s xs _ hR hb]
      obtain ⟨hfit, ht⟩ := (pre_iff he s (by omega)).1 hp
      simp only [Option.map_some, ← ht]
      rw [← List.drop_drop, List.take_append_drop]

/-- What was written of points is read as these points. -/
theorem runs_back {n : Int} (h1 : 1 ≤ n) (h5 : n ≤ 5) (s : ByteArray) : ∀ (ps : List Int) (xs : List (Int × Int)) (a : Nat), a ≤ s.size → Runs n s a xs → byt n ps = some (s.data.toList.drop a) → badOf xs = -1 ∧ goodP xs = ps ∧ NoNeg xs
  | [], xs, a, ha, hR, hb => by
    have hz := Option.some.inj hb
    have hz' := congrArg List.length hz
    rw [List.length_drop, Array.length_toList] at hz'
    have hsz : s.data.size = s.size := rfl
    cases xs with
    | nil => exact ⟨rfl, rfl, fun y hy => absurd hy (by simp)⟩
    | cons x xs =>
      have := hR.2.1
      simp at hz'
      omega
  | p :: ps, xs, a, ha, hR, hb => by
    simp only [byt] at hb
    obtain ⟨l, he, hb⟩ := Option.bind_eq_some_iff.mp hb
    obtain ⟨t, ht, hb⟩ := Option.map_eq_some_iff.mp hb
    have hlen := pos_len he
    have hL := congrArg List.length hb
    rw [List.length_append, byB_length, List.length_drop] at hL
    have hsl : s.data.toList.length = s.size := by rw [Array.length_toList]; rfl
    have hp : Pre l (s.extract a s.size) := (pre_iff he s ha).2 ⟨by omega, by rw [← hb, List.take_left' (byB_length l)]⟩
    have hd : s.data.toList.drop (a + l.length) = t := by
      rw [← List.drop_drop, ← hb, List.drop_left' (byB_length l)]
    cases xs with
    | nil =>
      have : a = s.size := hR
      omega
    | cons x xs =>
      obtain ⟨hx1, hl, hR⟩ := hR
      rcases hR with ⟨hm, rfl, hno⟩ | ⟨l', he', hp', hR⟩
      · exact absurd hp (hno _ _ he)
      · obtain ⟨hq, rfl⟩ := uni h1 h5 he hp he' hp'
        have hge : ¬ x.2 < 0 := by have := (encL_bytes he').2.2.2.1; omega
        obtain ⟨g1, g2, g3⟩ := runs_back h1 h5 s ps xs (a + l.length) (by omega) hR (by rw [ht, hd])
        refine ⟨by simp only [badOf, if_neg hge]; exact g1, by simp only [goodP, if_neg hge, g2, hq], ?_⟩
        intro y hy
        rcases List.mem_cons.1 hy with rfl | hy
        · exact hge
        · exact g3 y hy



theorem sgF_ok {n : Int} (h1 : 1 ≤ n) (h5 : n ≤ 5) (p : Int) : IsSign (encL n p) (sgF n p) := sign_ok h1 h5 p 3

/-- The program's Text, and the reference's: the points' bytes, or none. -/
theorem textF_eq {n : Int} (h1 : 1 ≤ n) (h5 : n ≤ 5) : ∀ (l : List Int) (acc : List UInt8), (∀ p ∈ l, p ≤ 9223372036854775807) → acc.length + 4 * l.length ≤ 140737488355328 →
    (∀ bs, byt n l = some bs → textF (wrF n) l acc = some (acc ++ bs, true)) ∧ (byt n l = none → ∃ c, textF (wrF n) l acc = some (c, false))
  | [], acc, _, _ => ⟨fun bs h => by obtain rfl := Option.some.inj h; simp [textF], fun h => by cases h⟩
  | p :: l, acc, hw, hl => by
    simp only [List.length_cons] at hl
    by_cases hp : p < 0
    · have hn : encL n p = none := by unfold encL; rw [if_pos (.inl hp)]
      obtain ⟨r, hr, _⟩ := wrF_total n p
      refine ⟨fun bs h => by simp [byt, hn] at h, fun _ => ⟨acc, ?_⟩⟩
      simp only [textF, hr, Option.bind_some]
      split <;> first | rfl | (rw [if_pos hp])
    · have h := wr_ok h1 h5 p (by omega) (hw p (List.mem_cons_self))
      cases he : encL n p with
      | none =>
        rw [he] at h
        obtain ⟨t, ht⟩ := h
        refine ⟨fun bs h => by simp [byt, he] at h, fun _ => ⟨acc, ?_⟩⟩
        simp [textF, ht]
      | some m =>
        rw [he] at h
        have hm := (encL_bytes he).2.2.1
        have ih := textF_eq h1 h5 l (acc ++ byB m) (fun q hq => hw q (List.mem_cons_of_mem _ hq)) (by rw [List.length_append, byB_length]; omega)
        have hs : textF (wrF n) (p :: l) acc = textF (wrF n) l (acc ++ byB m) := by
          rw [textF, show wrF n p = some (strOfNums m, true) from h]
          simp only [Option.bind_some, if_true, if_neg hp]
          rw [if_pos (by rw [strOfNums_size]; omega), strOfNums_list]
        rw [hs]
        refine ⟨fun bs hb => ?_, fun hb => ?_⟩
        · simp only [byt, he, Option.bind_some] at hb
          obtain ⟨t, ht, rfl⟩ := Option.map_eq_some_iff.mp hb
          rw [ih.1 t ht, List.append_assoc]
        · simp only [byt, he, Option.bind_some, Option.map_eq_none_iff] at hb
          exact ih.2 hb
theorem textR_eq {n : Int} (h1 : 1 ≤ n) (h5 : n ≤ 5) : ∀ (l : List Int) (acc : List UInt8), acc.length + 4 * l.length ≤ 140737488355328 →
    (∀ bs, byt n l = some bs → textR (sgF n) l acc = some (acc ++ bs, true)) ∧ (byt n l = none → ∃ c, textR (sgF n) l acc = some (c, false))
  | [], acc, _ => ⟨fun bs h => by obtain rfl := Option.some.inj h; simp [textR], fun h => by cases h⟩
  | p :: l, acc, hl => by
    simp only [List.length_cons] at hl
    have h := sgF_ok h1 h5 p
    cases he : encL n p with
    | none =>
      rw [he] at h
      obtain ⟨t, ht⟩ := h
      refine ⟨fun bs h => by simp [byt, he] at h, fun _ => ⟨acc, ?_⟩⟩
      simp [textR, ht]
    | some m =>
      rw [he] at h
      have hm := (encL_bytes he).2.2.1
      have ih := textR_eq h1 h5 l (acc ++ byB m) (by rw [List.length_append, byB_length]; omega)
      have hs : textR (sgF n) (p :: l) acc = textR (sgF n) l (acc ++ byB m) := by
        rw [textR, show sgF n p = some (strOfNums m, true) from h]
        simp only [Option.bind_some, if_true]
        rw [if_pos (by rw [strOfNums_size]; omega), strOfNums_list]
      rw [hs]
      refine ⟨fun bs hb => ?_, fun hb => ?_⟩
      · simp only [byt, he, Option.bind_some] at hb
        obtain ⟨t, ht, rfl⟩ := Option.map_eq_some_iff.mp hb
        rw [ih.1 t ht, List.append_assoc]
      · simp only [byt, he, Option.bind_some, Option.map_eq_none_iff] at hb
        exact ih.2 hb
/-- What Text answers. -/
def textOf (n : Int) (l : List Int) : ByteArray × Int :=
  if 1 ≤ n ∧ n ≤ 5 then (if (l.length : Int) > 65536 then (⟨#[]⟩, 3) else match byt n l with | some bs => if (bs.length : Int) > 65536 then (⟨#[]⟩, 4) else (⟨bs.toArray⟩, 0) | none => (⟨#[]⟩, 7)) else (⟨#[]⟩, 1)
theorem text_eq (n : Int) (l : List Int) (hw : ∀ p ∈ l, p ≤ 9223372036854775807) : codeset_Text.f n l = some (textOf n l) := by
  unfold codeset_Text.f textOf
  split
  · next hn =>
    split
    · rfl
    · next hl =>
      have h := textF_eq hn.1 hn.2 l [] hw (by simp; omega)
      cases hb : byt n l with
      | none =>
        obtain ⟨c, hc⟩ := h.2 hb
        simp [hc, textEnd]
      | some bs =>
        rw [h.1 bs hb]
        simp only [List.nil_append, Option.bind_some, textEnd, if_true]
        split <;> rfl
  · rfl
theorem textR_of (n : Int) (l : List Int) : intermederef12_Text.f n l = some (textOf n l) := by
  unfold intermederef12_Text.f textOf
  split
  · next hn =>
    split
    · rfl
    · next hl =>
      have h := textR_eq hn.1 hn.2 l [] (by simp; omega)
      cases hb : byt n l with
      | none =>
        obtain ⟨c, hc⟩ := h.2 hb
        simp [hc, textEnd]
      | some bs =>
        rw [h.1 bs hb]
        simp only [List.nil_append, Option.bind_some, textEnd, if_true]
        split <;> rfl
  · rfl

theorem same_self (l : List Int) (hl : l.length ≤ 1000000) : ∃ k, ∀ j, intermederef12_SameInts.f (k + j) l l = some true := by
  have key : ∀ (m i j : Nat), i + m = l.length → intermederef12_SameInts.l0 (m + 1 + j) l l (l.length : Int) i = some true := by
    intro m
    induction m with
    | zero =>
      intro i j h
      rw [show 0 + 1 + j = j + 1 by omega, intermederef12_SameInts.l0, if_neg (by omega)]
    | succ m ih =>
      intro i j h
      rw [show m + 1 + 1 + j = (m + 1 + j) + 1 by omega, intermederef12_SameInts.l0, if_pos (by omega), if_pos (by omega), if_pos (by omega), if_pos (by omega), if_pos rfl, w64 (by omega)]
      exact ih (i + 1) j (by omega)
  refine ⟨l.length + 1, fun j => ?_⟩
  unfold intermederef12_SameInts.f
  rw [if_pos rfl]
  exact key l.length 0 j (by omega)

/-- The points of a text. -/
theorem points_read {n : Int} (h1 : 1 ≤ n) (h5 : n ≤ 5) (s : ByteArray) (hs : s.size ≤ 65536) : ∃ xs, Runs n s 0 xs ∧ xs.length ≤ s.size ∧ codeset_Points.f n s = some (ptsOf xs) ∧ codeset_Right.f n s = some (rightOf xs s.size) ∧ seqF (nxF 16 n) s (s.size + 1) 0 = some xs := by
  obtain ⟨xs, hx, hR, hl⟩ := seq_runs h1 h5 s (s.size + 1) 0 (by omega) (by omega)
  have ha : codeset_asked.f n s = some 0 := by
    unfold codeset_asked.f codeset_is.f
    rw [if_pos h1]
    simp only [Option.bind_some, decide_eq_true_eq]
    rw [if_pos h5, if_neg (by omega)]
  refine ⟨xs, hR, by omega, ?_, ?_, hx⟩
  · unfold codeset_Points.f
    rw [ha]
    simp only [Option.bind_some, if_true, hx]
    rw [if_pos (by omega)]
  · unfold codeset_Right.f
    rw [ha]
    simp only [Option.bind_some, if_true, hx]


theorem awake_c1 : codeset_Convert.f 2 3 (⟨#[228]⟩ : ByteArray) = some (⟨#[195, 164]⟩, 0, 0) := by kernel_rfl
theorem awake_c2 : codeset_Convert.f 3 1 (⟨#[97, 195, 164]⟩ : ByteArray) = some (⟨#[]⟩, 1, 7) := by kernel_rfl
theorem awake_ch : codeset_Choose.f 30 2 [3] 5 [3] = some (3, 0) := by kernel_rfl
theorem awake_ok : intermedelaw12_awake.f 30 = some true := by
  unfold intermedelaw12_awake.f
  rw [awake_c1, awake_c2, awake_ch]
  simp [Go.ByteArray.toList_eq]
theorem awake_all : ∀ j, intermedelaw12_awake.f (30 + j) = some true
  | 0 => awake_ok
  | j + 1 => intermedelaw12_awake.mono _ _ (awake_all j)
theorem awake_ge {k : Nat} (h : 30 ≤ k) : intermedelaw12_awake.f k = some true := by
  obtain ⟨j, rfl⟩ := Nat.exists_eq_add_of_le h
  exact awake_all j


theorem w_one : wrap64 1 = 1 := w64 (by omega)
theorem w_two : wrap64 2 = 2 := w64 (by omega)
theorem noneg_good : ∀ (xs : List (Int × Int)), NoNeg xs → goodP xs = xs.map (·.2)
  | [], _ => rfl
  | x :: xs, h => by
    have hx : ¬ x.2 < 0 := h x (List.mem_cons_self)
    simp only [goodP, if_neg hx, List.map_cons, noneg_good xs (fun y hy => h y (List.mem_cons_of_mem _ hy))]
theorem runs_cases {n : Int} (s : ByteArray) : ∀ (xs : List (Int × Int)) (a : Nat), Runs n s a xs → (badOf xs = -1 ∧ NoNeg xs ∧ (∀ p ∈ goodP xs, ∃ l, encL n p = some l)) ∨ (0 ≤ badOf xs ∧ (xs.any fun x => decide (x.2 < 0)) = true ∧ ∃ x, xs.find? (fun x => decide (x.2 < 0)) = some x ∧ x.1 = badOf xs)
  | [], a, _ => .inl ⟨rfl, fun y hy => absurd hy (by simp), fun p hp => absurd hp (by simp [goodP])⟩
  | x :: xs, a, hR => by
    obtain ⟨hx1, hl, hR⟩ := hR
    rcases hR with ⟨hm, rfl, hno⟩ | ⟨l, he, hp, hR⟩
    · right
      refine ⟨by simp [badOf, hm, hx1], by simp [hm], x, by simp [hm], by simp [badOf, hm]⟩
    · have hge : ¬ x.2 < 0 := by have := (encL_bytes he).2.2.2.1; omega
      have hd : decide (x.2 < 0) = false := decide_eq_false hge
      simp only [badOf, if_neg hge, goodP]
      rcases runs_cases s xs _ hR with ⟨h1, h2, h3⟩ | ⟨h1, h2, y, h3, h4⟩
      · left
        refine ⟨h1, fun y hy => ?_, fun p hp => ?_⟩
        · rcases List.mem_cons.1 hy with rfl | hy
          · exact hge
          · exact h2 y hy
        · rcases List.mem_cons.1 hp with rfl | hp
          · exact ⟨l, he⟩
          · exact h3 p hp
      · right
        exact ⟨h1, by simp [h2], y, by rw [List.find?_cons, hd]; exact h3, h4⟩
theorem pts_val {n : Int} {s : ByteArray} {xs : List (Int × Int)} {a : Nat} (h : Runs n s a xs) : ptsOf xs = if badOf xs ≥ 0 then ([], 12) else (goodP xs, 0) := by
  rcases runs_cases s xs a h with ⟨h1, h2, _⟩ | ⟨h1, h2, _⟩
  · rw [ptsOf_none h2, if_neg (by omega), noneg_good xs h2]
  · rw [if_pos h1]
    unfold ptsOf
    rw [if_pos h2]
theorem right_val {n : Int} {s : ByteArray} {xs : List (Int × Int)} {a : Nat} (h : Runs n s a xs) (len : Int) : rightOf xs len = if badOf xs ≥ 0 then (badOf xs, 12) else (len, 0) := by
  rcases runs_cases s xs a h with ⟨h1, h2, _⟩ | ⟨h1, _, y, h3, h4⟩
  · rw [rightOf_none h2, if_neg (by omega)]
  · rw [if_pos h1]
    unfold rightOf
    rw [h3, ← h4]
theorem read_val {n : Int} (h1 : 1 ≤ n) (h5 : n ≤ 5) {s : ByteArray} (hs : s.size ≤ 65536) {xs : List (Int × Int)} (hR : Runs n s 0 xs) (hx : xs.length ≤ s.size) {k : Nat} (hk : s.size + 6 ≤ k) : intermederef12_read.f k n s = some (goodP xs, goodA xs, badOf xs) := by
  obtain ⟨j, rfl⟩ : ∃ j, k = j + xs.length + 6 := ⟨k - xs.length - 6, by omega⟩
  have := read_runs h1 h5 s hs j xs 0 [] [] hR (by simp; omega) (by simp; omega)
  simpa [intermederef12_read.f] using this
theorem ris_val (n : Int) : intermederef12_is.f n = some (decide (1 ≤ n ∧ n ≤ 5)) := by
  unfold intermederef12_is.f
  by_cases h1 : n ≥ 1
  · rw [if_pos h1]
    exact congrArg some (decide_eq_decide.2 (by omega))
  · rw [if_neg h1]
    exact congrArg some (decide_eq_false (by omega)).symm
set_option linter.unusedSimpArgs false in
theorem asked1 (n : Int) (s : ByteArray) (hs : s.size ≤ 65536) {k : Nat} (hk : 3 ≤ k) : intermederef12_asked.f k s [n] = some (if 1 ≤ n ∧ n ≤ 5 then 0 else 1) := by
  obtain ⟨j, rfl⟩ : ∃ j, k = j + 3 := ⟨k - 3, by omega⟩
  unfold intermederef12_asked.f
  rw [intermederef12_asked.l0]
  simp only [List.length_cons, List.length_nil, ris_val, Option.bind_some]
  by_cases hn : 1 ≤ n ∧ n ≤ 5
  · simp [rd, hn, intermederef12_asked.l0, w_one, show ¬ ((65536 : Int) < (s.size : Int)) by omega, show ¬ (65536 < s.size) by omega]
  · simp [rd, hn]
set_option linter.unusedSimpArgs false in
theorem asked2 (a b : Int) (s : ByteArray) (hs : s.size ≤ 65536) : intermederef12_asked.f 5 s [a, b] = some (if (1 ≤ a ∧ a ≤ 5) ∧ (1 ≤ b ∧ b ≤ 5) then 0 else 1) := by
  unfold intermederef12_asked.f
  rw [intermederef12_asked.l0]
  simp only [List.length_cons, List.length_nil, ris_val, Option.bind_some]
  by_cases ha : 1 ≤ a ∧ a ≤ 5
  · by_cases hb : 1 ≤ b ∧ b ≤ 5
    · simp [rd, ha, hb, intermederef12_asked.l0, ris_val, w_one, w_two, show ¬ ((65536 : Int) < (s.size : Int)) by omega, show ¬ (65536 < s.size) by omega]
    · simp [rd, ha, hb, intermederef12_asked.l0, ris_val, w_one]
  · simp [rd, ha]
theorem long_val (s : ByteArray) {k : Nat} (hk : 3 ≤ k) : intermedelaw12_long.f k [s] = some (decide ((s.size : Int) > 2000)) := by
  obtain ⟨j, rfl⟩ : ∃ j, k = j + 3 := ⟨k - 3, by omega⟩
  unfold intermedelaw12_long.f
  rw [intermedelaw12_long.l0]
  by_cases h : (s.size : Int) > 2000
  · simp [rdOf, show (2000 : Int) < s.size by omega]
  · simp [rdOf, show ¬ ((2000 : Int) < s.size) by omega, intermedelaw12_long.l0, w_one]


end Go.Proofs.Yteioboechlnogaa.P
