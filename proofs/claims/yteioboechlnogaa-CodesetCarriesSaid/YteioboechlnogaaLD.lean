import Derived.Test.YteioboechlnogaaLC
import Derived.Test.YteioboechlnogaaPx3
namespace Go.Proofs.Yteioboechlnogaa.P
open Go.Shelf Go.RowKit Go.Proofs.YteioboechlnogaaW.PrintWords Go.Proofs.YteioboechlnogaaW.PrintLast Go.Proofs.YteioboechlnogaaW.PrintMore


/-- An answer of the reference's first is right: this sign stands there, or none does. -/
def FxR (n : Int) (s : ByteArray) : Option (Int × Int × Bool) → Prop
  | none => False
  | some r => (r.2.2 = true ∧ ∃ l, encL n r.1 = some l ∧ Pre l s ∧ r.2.1 = l.length) ∨ (r.2.2 = false ∧ ∀ p l, encL n p = some l → ¬ Pre l s)
theorem FxR.bad {n : Int} (h1 : 1 ≤ n) (h5 : n ≤ 5) {s : ByteArray} {p k : Int} (h : ∀ p k, Sig n s p k → False) : FxR n s (some (p, k, false)) := .inr ⟨rfl, fun _ _ he hp => h _ _ (sig_of h1 h5 he hp)⟩

theorem at_eq (s : ByteArray) {i : Int} (h : 0 ≤ i) : intermederef12_at.f s i = some (bt s i) := by
  unfold intermederef12_at.f
  split
  · simp only [wbt]
  · rw [bt_out s (by omega)]
theorem byte_nat (s : ByteArray) (i : Nat) (h : i < s.size) : bt s (i : Int) = ((s[i]'h).toNat : Int) := by
  unfold bt
  rw [dif_pos (by simpa using h)]
  simp
theorem preAt_iff (s : ByteArray) : ∀ (l : List Int) (i : Nat), (∀ a ∈ l, 0 ≤ a ∧ a < 256) → (PreAt s i l ↔ (i + l.length ≤ s.size ∧ (s.data.toList.drop i).take l.length = l.map fun n => UInt8.ofNat n.toNat) ∨ l = [])
  | [], i, _ => by simp [PreAt]
  | a :: l, i, hl => by
    have ih := preAt_iff s l (i + 1) (fun b hb => hl b (List.mem_cons_of_mem _ hb))
    have ha := hl a (List.mem_cons_self)
    simp only [PreAt]
    rw [show ((i : Int) + 1) = ((i + 1 : Nat) : Int) by omega, ih]
    constructor
    · rintro ⟨h1, h2, h3⟩
      have hi : i < s.size := by omega
      have hi' : i < s.data.toList.length := by simpa using hi
      left
      rw [byte_nat s i hi] at h2
      have hd : s.data.toList.drop i = s.data.toList[i] :: s.data.toList.drop (i + 1) := List.drop_eq_getElem_cons hi'
      have hb : s.data.toList[i] = UInt8.ofNat a.toNat := by
        apply UInt8.toNat_inj.1
        have : s.data.toList[i].toNat = (s[i]'hi).toNat := by rfl
        rw [this]
        simp
        omega
      rcases h3 with ⟨h3, h4⟩ | rfl
      · refine ⟨by simp; omega, ?_⟩
        rw [hd]
        simp only [List.length_cons, List.take_succ_cons, List.map_cons, h4, hb]
      · refine ⟨by simp; omega, ?_⟩
        rw [hd]
        simp [hb]
    · rintro (⟨h1, h2⟩ | h)
      · have hi : i < s.size := by simp at h1; omega
        have hi' : i < s.data.toList.length := by simpa using hi
        have hd : s.data.toList.drop i = s.data.toList[i] :: s.data.toList.drop (i + 1) := List.drop_eq_getElem_cons hi'
        rw [hd] at h2
        simp only [List.length_cons, List.take_succ_cons, List.map_cons, List.cons.injEq] at h2
        refine ⟨by omega, ?_, .inl ⟨by simp at h1; omega, h2.2⟩⟩
        rw [byte_nat s i hi]
        have : s.data.toList[i].toNat = (s[i]'hi).toNat := by rfl
        rw [← this, h2.1]
        simp
        omega
      · cases h
theorem toList_strOfNums (l : List Int) : (strOfNums l).toList = l.map fun n => UInt8.ofNat n.toNat := by
  rw [Go.ByteArray.toList_eq]
  simp [strOfNums]

/-- The sign is what stands at the beginning: by their bytes. -/
theorem starts_iff {s : ByteArray} {l : List Int} {e : Nat} (hl : ∀ a ∈ l, 0 ≤ a ∧ a < 256) (he : e ≤ s.size) (hne : l ≠ []) : ((strOfNums l).toList == (s.extract 0 e).toList) = true ↔ (Pre l s ∧ l.length = e) := by
  have key := preAt_iff s l 0 hl
  rw [beq_iff_eq, toList_strOfNums, Go.ByteArray.toList_eq, ByteArray.data_extract, Array.toList_extract, List.extract_eq_take_drop]
  unfold Pre
  rw [show (0 : Int) = ((0 : Nat) : Int) by rfl, key]
  constructor
  · intro h
    have hlen : l.length = e := by
      have := congrArg List.length h
      simp at this
      have h2 : s.data.size = s.size := rfl
      omega
    refine ⟨.inl ⟨by omega, ?_⟩, hlen⟩
    rw [hlen, h]
    simp
  · rintro ⟨⟨h1, h2⟩ | h, rfl⟩
    · rw [← h2]
      simp
    · exact absurd h hne

theorem encL_bytes {n p : Int} {l : List Int} (h : encL n p = some l) : (∀ a ∈ l, 0 ≤ a ∧ a < 256) ∧ l ≠ [] ∧ l.length ≤ 4 ∧ 0 ≤ p ∧ p ≤ 1114111 := by
  unfold encL at h
  (repeat' split at h) <;> first | (cases h; done) | (obtain rfl := Option.some.inj h; refine ⟨?_, by simp, by simp, by omega, by omega⟩; simp only [List.mem_cons, List.not_mem_nil, or_false, forall_eq_or_imp, forall_eq]; omega)

theorem FxR.mk {n p : Int} {s : ByteArray} {k e : Nat} {m : Int} (h1 : 1 ≤ n) (h5 : n ≤ 5) (hm : 0 ≤ m) (hs : m ≤ s.size) (he : e = m.toNat) (hu : ∀ q r, Sig n s q r → q = p ∧ r = m) :
    FxR n s ((intermederef12_Sign.f (k + 2) n p).bind fun bt => if bt.2 = true then (if 0 ≤ m then (if m ≤ (s.size : Int) then some (p, m, (bt.1.toList == (s.extract 0 e).toList)) else none) else none) else some (p, m, false)) := by
  have h := sign_ok h1 h5 p k
  cases ho : encL n p with
  | none =>
    rw [ho] at h
    obtain ⟨t, ht⟩ := h
    rw [ht]
    refine .inr ⟨rfl, fun q l hq hp => ?_⟩
    obtain ⟨rfl, _⟩ := hu _ _ (sig_of h1 h5 hq hp)
    rw [ho] at hq
    cases hq
  | some l =>
    rw [ho] at h
    rw [show intermederef12_Sign.f (k + 2) n p = some (strOfNums l, true) from h]
    simp only [Option.bind_some, if_true]
    rw [if_pos hm, if_pos hs]
    have hb := encL_bytes ho
    have hst := starts_iff (s := s) (e := e) hb.1 (by omega) hb.2.1
    by_cases hq : ((strOfNums l).toList == (s.extract 0 e).toList) = true
    · rw [hq]
      obtain ⟨hp, hl⟩ := hst.1 hq
      exact .inl ⟨rfl, l, ho, hp, by show m = _; omega⟩
    · refine .inr ⟨by simpa using hq, fun q l' hq' hp' => hq ?_⟩
      obtain ⟨rfl, hr⟩ := hu _ _ (sig_of h1 h5 hq' hp')
      rw [ho] at hq'
      obtain rfl := Option.some.inj hq'
      exact hst.2 ⟨hp', by omega⟩

theorem FxR.mk' {n p : Int} {s : ByteArray} {k e : Nat} {m : Int} (h1 : 1 ≤ n) (h5 : n ≤ 5) (hm : 0 ≤ m) (hs : m ≤ s.size) (he : e = m.toNat) (hu : ∀ q r, Sig n s q r → q = p ∧ r = m) :
    FxR n s ((intermederef12_Sign.f (k + 2) n p).bind fun bt => if bt.2 = true then (if m ≤ (s.size : Int) then some (p, m, (bt.1.toList == (s.extract 0 e).toList)) else none) else some (p, m, false)) := by
  have h := FxR.mk (k := k) h1 h5 hm hs he hu
  simpa only [if_pos hm] using h

set_option linter.unusedSimpArgs false in
set_option maxHeartbeats 8000000 in
theorem first_ok {n : Int} (h1 : 1 ≤ n) (h5 : n ≤ 5) (s : ByteArray) (k : Nat) : FxR n s (intermederef12_first.f (k + 4) n s) := by
  have b0 := bt_range s 0
  have b1 := bt_range s 1
  have b2 := bt_range s 2
  have b3 := bt_range s 3
  unfold intermederef12_first.f
  rw [at_eq s (by decide)]
  simp only [Option.bind_some]
  rcases five h1 h5 with rfl | rfl | rfl | rfl | rfl
  · rw [if_pos rfl, intermederef12_first.j0, if_pos (by decide)]
    split
    · (refine FxR.bad (by decide) (by decide) ?_; intro q k h; simp only [Sig, if_true, if_false, Int.reduceEq] at h; omega)
    · ((first | refine FxR.mk (by decide) (by decide) ?_ ?_ ?_ ?_ | refine FxR.mk' (by decide) (by decide) ?_ ?_ ?_ ?_) <;> first | omega | rfl | (intro q r h; simp only [Sig, if_true, if_false, Int.reduceEq] at h; omega))
  · rw [if_neg (by decide), intermederef12_first.j0, if_pos (by decide)]
    split
    · (refine FxR.bad (by decide) (by decide) ?_; intro q k h; simp only [Sig, if_true, if_false, Int.reduceEq] at h; omega)
    · ((first | refine FxR.mk (by decide) (by decide) ?_ ?_ ?_ ?_ | refine FxR.mk' (by decide) (by decide) ?_ ?_ ?_ ?_) <;> first | omega | rfl | (intro q r h; simp only [Sig, if_true, if_false, Int.reduceEq] at h; omega))
  · rw [if_neg (by decide), intermederef12_first.j0, if_neg (by decide), if_neg (by decide), if_neg (by decide), if_pos rfl, at_eq s (by decide), at_eq s (by decide), at_eq s (by decide)]
    simp only [Option.bind_some]
    simp (disch := omega) only [w64, tmd]
    split
    · split
      · (refine FxR.bad (by decide) (by decide) ?_; intro q k h; simp only [Sig, if_true, if_false, Int.reduceEq] at h; omega)
      · ((first | refine FxR.mk (by decide) (by decide) ?_ ?_ ?_ ?_ | refine FxR.mk' (by decide) (by decide) ?_ ?_ ?_ ?_) <;> first | omega | rfl | (intro q r h; simp only [Sig, if_true, if_false, Int.reduceEq] at h; omega))
    · split
      · split
        · (refine FxR.bad (by decide) (by decide) ?_; intro q k h; simp only [Sig, if_true, if_false, Int.reduceEq] at h; omega)
        · ((first | refine FxR.mk (by decide) (by decide) ?_ ?_ ?_ ?_ | refine FxR.mk' (by decide) (by decide) ?_ ?_ ?_ ?_) <;> first | omega | rfl | (intro q r h; simp only [Sig, if_true, if_false, Int.reduceEq] at h; omega))
      · split
        · split
          · (refine FxR.bad (by decide) (by decide) ?_; intro q k h; simp only [Sig, if_true, if_false, Int.reduceEq] at h; omega)
          · ((first | refine FxR.mk (by decide) (by decide) ?_ ?_ ?_ ?_ | refine FxR.mk' (by decide) (by decide) ?_ ?_ ?_ ?_) <;> first | omega | rfl | (intro q r h; simp only [Sig, if_true, if_false, Int.reduceEq] at h; omega))
        · split
          · (refine FxR.bad (by decide) (by decide) ?_; intro q k h; simp only [Sig, if_true, if_false, Int.reduceEq] at h; omega)
          · ((first | refine FxR.mk (by decide) (by decide) ?_ ?_ ?_ ?_ | refine FxR.mk' (by decide) (by decide) ?_ ?_ ?_ ?_) <;> first | omega | rfl | (intro q r h; simp only [Sig, if_true, if_false, Int.reduceEq] at h; omega))
  · rw [if_neg (by decide), intermederef12_first.j0, if_neg (by decide), if_neg (by decide), if_pos rfl, at_eq s (by decide)]
    simp only [Option.bind_some]
    simp (disch := omega) only [w64, tmd]
    split
    · by_cases hh : bt s 0 * 256 + bt s 1 ≤ 56319
      · rw [intermederef12_first.j1, if_pos (decide_eq_true hh), at_eq s (by decide), at_eq s (by decide)]
        simp only [Option.bind_some]
        simp (disch := omega) only [w64, tmd]
        split
        · (refine FxR.bad (by decide) (by decide) ?_; intro q k h; simp only [Sig, if_true, if_false, Int.reduceEq] at h; omega)
        · ((first | refine FxR.mk (by decide) (by decide) ?_ ?_ ?_ ?_ | refine FxR.mk' (by decide) (by decide) ?_ ?_ ?_ ?_) <;> first | omega | rfl | (intro q r h; simp only [Sig, if_true, if_false, Int.reduceEq] at h; omega))
      · rw [intermederef12_first.j1, if_neg (by simpa using hh)]
        split
        · (refine FxR.bad (by decide) (by decide) ?_; intro q k h; simp only [Sig, if_true, if_false, Int.reduceEq] at h; omega)
        · ((first | refine FxR.mk (by decide) (by decide) ?_ ?_ ?_ ?_ | refine FxR.mk' (by decide) (by decide) ?_ ?_ ?_ ?_) <;> first | omega | rfl | (intro q r h; simp only [Sig, if_true, if_false, Int.reduceEq] at h; omega))
    · rw [intermederef12_first.j1, if_neg (by decide)]
      split
      · (refine FxR.bad (by decide) (by decide) ?_; intro q k h; simp only [Sig, if_true, if_false, Int.reduceEq] at h; omega)
      · ((first | refine FxR.mk (by decide) (by decide) ?_ ?_ ?_ ?_ | refine FxR.mk' (by decide) (by decide) ?_ ?_ ?_ ?_) <;> first | omega | rfl | (intro q r h; simp only [Sig, if_true, if_false, Int.reduceEq] at h; omega))
  · rw [if_neg (by decide), intermederef12_first.j0, if_neg (by decide), if_pos rfl]
    simp (disch := omega) only [w64, tmd]
    split
    · split
      · (refine FxR.bad (by decide) (by decide) ?_; intro q k h; simp only [Sig, if_true, if_false, Int.reduceEq] at h; omega)
      · ((first | refine FxR.mk (by decide) (by decide) ?_ ?_ ?_ ?_ | refine FxR.mk' (by decide) (by decide) ?_ ?_ ?_ ?_) <;> first | omega | rfl | (intro q r h; simp only [Sig, if_true, if_false, Int.reduceEq] at h; omega))
    · split
      · (refine FxR.bad (by decide) (by decide) ?_; intro q k h; simp only [Sig, if_true, if_false, Int.reduceEq] at h; omega)
      · ((first | refine FxR.mk (by decide) (by decide) ?_ ?_ ?_ ?_ | refine FxR.mk' (by decide) (by decide) ?_ ?_ ?_ ?_) <;> first | omega | rfl | (intro q r h; simp only [Sig, if_true, if_false, Int.reduceEq] at h; omega))

end Go.Proofs.Yteioboechlnogaa.P
