import Derived.Test.YteioboechlnogaaLA
namespace Go.Proofs.Yteioboechlnogaa.P
open Go.Shelf Go.RowKit Go.Proofs.YteioboechlnogaaW.PrintWords Go.Proofs.YteioboechlnogaaW.PrintLast Go.Proofs.YteioboechlnogaaW.PrintMore

/-- What bytes a sign has. -/
def Sig (n : Int) (s : ByteArray) (q k : Int) : Prop :=
  if n = 1 then 1 ≤ (s.size : Int) ∧ q = bt s 0 ∧ bt s 0 < 128 ∧ k = 1
  else if n = 2 then 1 ≤ (s.size : Int) ∧ q = bt s 0 ∧ k = 1
  else if n = 3 then (1 ≤ (s.size : Int) ∧ q = bt s 0 ∧ bt s 0 < 128 ∧ k = 1) ∨ (2 ≤ (s.size : Int) ∧ q = (bt s 0 - 192) * 64 + (bt s 1 - 128) ∧ 192 ≤ bt s 0 ∧ bt s 0 < 224 ∧ 128 ≤ bt s 1 ∧ bt s 1 < 192 ∧ 128 ≤ q ∧ k = 2)
    ∨ (3 ≤ (s.size : Int) ∧ q = (bt s 0 - 224) * 4096 + (bt s 1 - 128) * 64 + (bt s 2 - 128) ∧ 224 ≤ bt s 0 ∧ bt s 0 < 240 ∧ 128 ≤ bt s 1 ∧ bt s 1 < 192 ∧ 128 ≤ bt s 2 ∧ bt s 2 < 192 ∧ 2048 ≤ q ∧ ¬(55296 ≤ q ∧ q ≤ 57343) ∧ k = 3)
    ∨ (4 ≤ (s.size : Int) ∧ q = (bt s 0 - 240) * 262144 + (bt s 1 - 128) * 4096 + (bt s 2 - 128) * 64 + (bt s 3 - 128) ∧ 240 ≤ bt s 0 ∧ bt s 0 < 248 ∧ 128 ≤ bt s 1 ∧ bt s 1 < 192 ∧ 128 ≤ bt s 2 ∧ bt s 2 < 192 ∧ 128 ≤ bt s 3 ∧ bt s 3 < 192 ∧ 65536 ≤ q ∧ q ≤ 1114111 ∧ k = 4)
  else if n = 4 then (2 ≤ (s.size : Int) ∧ q = bt s 0 * 256 + bt s 1 ∧ ¬(55296 ≤ q ∧ q ≤ 57343) ∧ k = 2) ∨ (4 ≤ (s.size : Int) ∧ 55296 ≤ bt s 0 * 256 + bt s 1 ∧ bt s 0 * 256 + bt s 1 ≤ 56319 ∧ 56320 ≤ bt s 2 * 256 + bt s 3 ∧ bt s 2 * 256 + bt s 3 ≤ 57343 ∧ q = 65536 + (bt s 0 * 256 + bt s 1 - 55296) * 1024 + (bt s 2 * 256 + bt s 3 - 56320) ∧ k = 4)
  else (1 ≤ (s.size : Int) ∧ q = bt s 0 ∧ bt s 0 < 128 ∧ k = 1) ∨ (1 ≤ (s.size : Int) ∧ q = bt s 0 + 772 ∧ 128 ≤ bt s 0 ∧ bt s 0 ≤ 199 ∧ k = 1)

set_option linter.unusedSimpArgs false in
set_option maxHeartbeats 4000000 in
theorem sig_of {n : Int} (h1 : 1 ≤ n) (h5 : n ≤ 5) {s : ByteArray} {q : Int} {l : List Int} (h : encL n q = some l) (hp : Pre l s) : Sig n s q l.length := by
  unfold Sig
  rcases five h1 h5 with rfl | rfl | rfl | rfl | rfl
  all_goals
    simp only [encL, if_true, if_false, Int.reduceEq] at h ⊢
    (repeat' split at h) <;> first | (cases h; done) | (obtain rfl := Option.some.inj h; simp only [Pre, PreAt, and_true, Int.reduceAdd, List.length_cons, List.length_nil, Nat.zero_add, Nat.reduceAdd, Int.natCast_one, Int.cast_ofNat_Int] at hp ⊢; omega)
/-- The point and the length of the sign with which a text begins are one. -/
theorem sig_one {n : Int} (h1 : 1 ≤ n) (h5 : n ≤ 5) {s : ByteArray} {q q' k k' : Int} (h : Sig n s q k) (h' : Sig n s q' k') : q = q' ∧ k = k' := by
  unfold Sig at h h'
  rcases five h1 h5 with rfl | rfl | rfl | rfl | rfl
  all_goals
    simp only [if_true, if_false, Int.reduceEq] at h h'
    omega
theorem uni {n : Int} (h1 : 1 ≤ n) (h5 : n ≤ 5) {s : ByteArray} {q q' : Int} {l l' : List Int} (h : encL n q = some l) (hp : Pre l s) (h' : encL n q' = some l') (hp' : Pre l' s) : q = q' ∧ l = l' := by
  have e := (sig_one h1 h5 (sig_of h1 h5 h hp) (sig_of h1 h5 h' hp')).1
  subst e
  rw [h] at h'
  exact ⟨rfl, Option.some.inj h'⟩

/-- An answer of next is right: no sign stands there, or this one does. -/
def NxR (n : Int) (s : ByteArray) : Option (Int × Int) → Prop
  | none => False
  | some r => (r.2 = 0 ∧ ∀ p l, encL n p = some l → ¬ Pre l s) ∨ (∃ l, encL n r.1 = some l ∧ Pre l s ∧ r.2 = l.length)
theorem NxR.bad {n : Int} (h1 : 1 ≤ n) (h5 : n ≤ 5) {s : ByteArray} (h : ∀ p k, Sig n s p k → False) : NxR n s (some (0, 0)) := .inl ⟨rfl, fun _ _ he hp => h _ _ (sig_of h1 h5 he hp)⟩
theorem NxR.good {n p : Int} {s : ByteArray} {k : Int} (l : List Int) (h : encL n p = some l) (hp : Pre l s) (hk : k = l.length) : NxR n s (some (p, k)) := .inr ⟨l, h, hp, hk⟩

theorem l0_step (k : Nat) (s : ByteArray) (m x y i : Int) (h0 : 0 ≤ i) (h1 : i < m) (hm : m ≤ 4) (h2 : i < (s.size : Int)) (hx : 0 ≤ x) (hx' : x < 1099511627776) :
    codeset_eight_next.l0 (k + 1) s m x y i = if 128 ≤ bt s i ∧ bt s i < 192 then codeset_eight_next.l0 k s m (x * 64 + bt s i % 64) y (i + 1) else some (0, 0) := by
  rw [codeset_eight_next.l0, if_pos h1, if_pos h0, if_pos h2]
  simp only [and192, and63]
  rw [or6 hx hx' (by omega) (by omega), w64 (by omega)]
theorem l0_end (k : Nat) (s : ByteArray) (m x y i : Int) (h1 : ¬ i < m) :
    codeset_eight_next.l0 (k + 1) s m x y i = if x < y then some (0, 0) else if 0 ≤ x ∧ x ≤ 1114111 ∧ ¬(55296 ≤ x ∧ x ≤ 57343) then some (x, m) else some (0, 0) := by
  rw [codeset_eight_next.l0, if_neg h1]
  simp only [coded_eq, Option.bind_some, decide_eq_true_eq]

set_option linter.unusedSimpArgs false in
set_option maxHeartbeats 8000000 in
theorem eight_ok (s : ByteArray) (hs : 0 < s.size) : NxR 3 s (codeset_eight_next.f 16 s) := by
  have b0 := bt_range s 0
  have b1 := bt_range s 1
  have b2 := bt_range s 2
  have b3 := bt_range s 3
  have hs' : (0 : Int) < s.size := by omega
  rw [codeset_eight_next.f, if_pos hs']
  simp only [wbt]
  by_cases c1 : bt s 0 < 128
  · rw [if_pos c1, codeset_eight_next.j2, if_neg (by omega), l0_end _ _ _ _ _ _ (by omega), if_neg (by omega), if_pos (by omega)]
    (refine NxR.good [bt s 0] ?_ ?_ rfl <;> first | (simp only [Pre, PreAt, and_true]; omega) | (simp only [encL, if_true, if_false, Int.reduceEq]; (repeat' split) <;> first | (exfalso; omega) | rfl | (congr 1; refine l1_of ?_ <;> omega)))
  · rw [if_neg c1]
    by_cases c2 : bt s 0 ≥ 192
    · rw [if_pos c2, codeset_eight_next.j0]
      by_cases c3 : bt s 0 < 224
      · rw [if_pos (decide_eq_true c3), codeset_eight_next.j2, and31]
        split
        · (refine NxR.bad (by decide) (by decide) ?_; intro q k h; simp only [Sig, if_true, if_false, Int.reduceEq] at h; omega)
        · rw [l0_step _ _ _ _ _ _ (by omega) (by omega) (by omega) (by omega) (by omega) (by omega)]
          split
          · rw [l0_end _ _ _ _ _ _ (by omega)]
            (repeat' split) <;> first | (refine NxR.bad (by decide) (by decide) ?_; intro q k h; simp only [Sig, if_true, if_false, Int.reduceEq] at h; omega) | (refine NxR.good [bt s 0, bt s 1] ?_ ?_ rfl <;> first | (simp only [Pre, PreAt, and_true, true_and, Int.reduceAdd]; omega) | (simp only [encL, if_true, if_false, Int.reduceEq]; (repeat' split) <;> first | (exfalso; omega) | rfl | (congr 1; refine l2_of ?_ ?_ <;> omega)))
          · (refine NxR.bad (by decide) (by decide) ?_; intro q k h; simp only [Sig, if_true, if_false, Int.reduceEq] at h; omega)
      · rw [if_neg (by simpa using c3), if_pos (by omega), codeset_eight_next.j1]
        by_cases c4 : bt s 0 < 240
        · rw [if_pos (decide_eq_true c4), codeset_eight_next.j2, and15]
          split
          · (refine NxR.bad (by decide) (by decide) ?_; intro q k h; simp only [Sig, if_true, if_false, Int.reduceEq] at h; omega)
          · rw [l0_step _ _ _ _ _ _ (by omega) (by omega) (by omega) (by omega) (by omega) (by omega)]
            split
            · rw [l0_step _ _ _ _ _ _ (by omega) (by omega) (by omega) (by omega) (by omega) (by omega)]
              split
              · rw [l0_end _ _ _ _ _ _ (by omega)]
                (try simp only [Int.reduceAdd] at *)
                (repeat' split) <;> first | (refine NxR.bad (by decide) (by decide) ?_; intro q k h; simp only [Sig, if_true, if_false, Int.reduceEq] at h; omega) | (refine NxR.good [bt s 0, bt s 1, bt s 2] ?_ ?_ rfl <;> first | (simp only [Pre, PreAt, and_true, true_and, Int.reduceAdd]; omega) | (simp only [encL, if_true, if_false, Int.reduceEq]; (repeat' split) <;> first | (exfalso; omega) | rfl | (congr 1; refine l3_of ?_ ?_ ?_ <;> omega)))
              · (try simp only [Int.reduceAdd] at *)
                (refine NxR.bad (by decide) (by decide) ?_; intro q k h; simp only [Sig, if_true, if_false, Int.reduceEq] at h; omega)
            · (refine NxR.bad (by decide) (by decide) ?_; intro q k h; simp only [Sig, if_true, if_false, Int.reduceEq] at h; omega)
        · rw [if_neg (by simpa using c4), if_pos (by omega)]
          by_cases c5 : bt s 0 < 248
          · rw [if_pos c5, codeset_eight_next.j2, and7]
            split
            · (refine NxR.bad (by decide) (by decide) ?_; intro q k h; simp only [Sig, if_true, if_false, Int.reduceEq] at h; omega)
            · rw [l0_step _ _ _ _ _ _ (by omega) (by omega) (by omega) (by omega) (by omega) (by omega)]
              split
              · rw [l0_step _ _ _ _ _ _ (by omega) (by omega) (by omega) (by omega) (by omega) (by omega)]
                split
                · (try simp only [Int.reduceAdd] at *)
                  rw [l0_step _ _ _ _ _ _ (by omega) (by omega) (by omega) (by omega) (by omega) (by omega)]
                  split
                  · rw [l0_end _ _ _ _ _ _ (by omega)]
                    (try simp only [Int.reduceAdd] at *)
                    (repeat' split) <;> first | (refine NxR.bad (by decide) (by decide) ?_; intro q k h; simp only [Sig, if_true, if_false, Int.reduceEq] at h; omega) | (refine NxR.good [bt s 0, bt s 1, bt s 2, bt s 3] ?_ ?_ rfl <;> first | (simp only [Pre, PreAt, and_true, true_and, Int.reduceAdd]; omega) | (simp only [encL, if_true, if_false, Int.reduceEq]; (repeat' split) <;> first | (exfalso; omega) | rfl | (congr 1; refine l4_of ?_ ?_ ?_ ?_ <;> omega)))
                  · (refine NxR.bad (by decide) (by decide) ?_; intro q k h; simp only [Sig, if_true, if_false, Int.reduceEq] at h; omega)
                · (try simp only [Int.reduceAdd] at *)
                  (refine NxR.bad (by decide) (by decide) ?_; intro q k h; simp only [Sig, if_true, if_false, Int.reduceEq] at h; omega)
              · (refine NxR.bad (by decide) (by decide) ?_; intro q k h; simp only [Sig, if_true, if_false, Int.reduceEq] at h; omega)
          · rw [if_neg c5]
            (refine NxR.bad (by decide) (by decide) ?_; intro q k h; simp only [Sig, if_true, if_false, Int.reduceEq] at h; omega)
    · rw [if_neg c2, codeset_eight_next.j0, if_neg (by decide), if_neg (by omega), codeset_eight_next.j1, if_neg (by decide), if_neg (by omega)]
      (refine NxR.bad (by decide) (by decide) ?_; intro q k h; simp only [Sig, if_true, if_false, Int.reduceEq] at h; omega)

set_option linter.unusedSimpArgs false in
set_option maxHeartbeats 8000000 in
theorem next_ok {n : Int} (h1 : 1 ≤ n) (h5 : n ≤ 5) (s : ByteArray) (hs : 0 < s.size) : NxR n s (nxF 16 n s) := by
  have b0 := bt_range s 0
  have b1 := bt_range s 1
  have b2 := bt_range s 2
  have b3 := bt_range s 3
  have hs' : (0 : Int) < s.size := by omega
  unfold nxF
  rcases five h1 h5 with rfl | rfl | rfl | rfl | rfl
  · simp only [codeset_single_next.f, wbt, hs', if_true]
    simp (disch := omega) only [w64]
    (repeat' split) <;> first | (exfalso; omega) | (refine NxR.bad (by decide) (by decide) ?_; intro q k h; simp only [Sig, if_true, if_false, Int.reduceEq] at h; omega) | (refine NxR.good [bt s 0] ?_ ?_ rfl <;> first | (simp only [Pre, PreAt, and_true]; omega) | (simp only [encL, if_true, if_false, Int.reduceEq]; (repeat' split) <;> first | (exfalso; omega) | rfl | (congr 1; refine l1_of ?_ <;> omega)))
  · simp only [codeset_single_next.f, wbt, hs', if_true, if_false, Int.reduceEq]
    simp (disch := omega) only [w64]
    (repeat' split) <;> first | (exfalso; omega) | (refine NxR.bad (by decide) (by decide) ?_; intro q k h; simp only [Sig, if_true, if_false, Int.reduceEq] at h; omega) | (refine NxR.good [bt s 0] ?_ ?_ rfl <;> first | (simp only [Pre, PreAt, and_true]; omega) | (simp only [encL, if_true, if_false, Int.reduceEq]; (repeat' split) <;> first | (exfalso; omega) | rfl | (congr 1; refine l1_of ?_ <;> omega)))
  · simp only [if_true, if_false, Int.reduceEq]
    exact eight_ok s hs
  · simp only [codeset_sixteen_next.f, codeset_sixteen_next.j0, codeset_sixteen_next.j1, wbt, or8, hs', if_true, if_false, Int.reduceEq, Int.reduceLT, Int.reduceLE, decide_eq_true_eq, Bool.false_eq_true]
    (repeat' split) <;> first | (exfalso; omega) | (refine NxR.bad (by decide) (by decide) ?_; intro q k h; simp only [Sig, if_true, if_false, Int.reduceEq] at h; omega) | (refine NxR.good [bt s 0, bt s 1] ?_ ?_ rfl <;> first | (simp only [Pre, PreAt, and_true, true_and, Int.reduceAdd]; omega) | (simp only [encL, if_true, if_false, Int.reduceEq]; (repeat' split) <;> first | (exfalso; omega) | rfl | (congr 1; refine l2_of ?_ ?_ <;> omega))) | (simp (disch := omega) only [w64]; (refine NxR.good [bt s 0, bt s 1, bt s 2, bt s 3] ?_ ?_ rfl <;> first | (simp only [Pre, PreAt, and_true, true_and, Int.reduceAdd]; omega) | (simp only [encL, if_true, if_false, Int.reduceEq]; (repeat' split) <;> first | (exfalso; omega) | rfl | (congr 1; refine l4_of ?_ ?_ ?_ ?_ <;> omega))))
  · simp only [codeset_single_next.f, wbt, hs', if_true, if_false, Int.reduceEq]
    simp (disch := omega) only [w64]
    (repeat' split) <;> first | (exfalso; omega) | (refine NxR.bad (by decide) (by decide) ?_; intro q k h; simp only [Sig, if_true, if_false, Int.reduceEq] at h; omega) | (refine NxR.good [bt s 0] ?_ ?_ rfl <;> first | (simp only [Pre, PreAt, and_true]; omega) | (simp only [encL, if_true, if_false, Int.reduceEq]; (repeat' split) <;> first | (exfalso; omega) | rfl | (congr 1; refine l1_of ?_ <;> omega)))

end Go.Proofs.Yteioboechlnogaa.P
