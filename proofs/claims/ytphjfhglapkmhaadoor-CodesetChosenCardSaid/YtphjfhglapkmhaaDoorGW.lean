/- It is proved of the writing of a point what it appends. No condition beyond the lemmas' own. -/
import Derived.Laws.Cover4
import Derived.Test.YtphjfhglapkmhaaDoorSpec
namespace Go.Proofs.YtphjfhglapkmhaaDoor.P
open Go.Shelf Go.RowKit Go.Proofs.YtphjfhglapkmhaaDoorW.PrintWords Go.Proofs.YtphjfhglapkmhaaDoorW.PrintLast Go.Proofs.YtphjfhglapkmhaaDoorW.PrintMore

theorem strOfNums_size (l : List Int) : (strOfNums l).size = l.length := by simp [strOfNums, ByteArray.size]
theorem coded_total (p : Int) : ∃ b, codeset_coded.f p = some b := by
  unfold codeset_coded.f
  repeat' split
  all_goals exact ⟨_, rfl⟩
theorem single_write_total (m d p : Int) : ∃ r, codeset_single_write.f m d p = some r ∧ r.1.size ≤ 4 := by
  unfold codeset_single_write.f
  repeat' split
  all_goals exact ⟨_, rfl, by simp [strOfNums_size]⟩
theorem eight_write_total (p : Int) : ∃ r, codeset_eight_write.f p = some r ∧ r.1.size ≤ 4 := by
  unfold codeset_eight_write.f
  obtain ⟨b, hb⟩ := coded_total p
  rw [hb]
  simp only [Option.bind_some]
  split
  · exact ⟨_, rfl, encode_size_le _⟩
  · exact ⟨_, rfl, by decide⟩
theorem sixteen_write_total (p : Int) : ∃ r, codeset_sixteen_write.f p = some r ∧ r.1.size ≤ 4 := by
  unfold codeset_sixteen_write.f
  obtain ⟨b, hb⟩ := coded_total p
  rw [hb]
  simp only [Option.bind_some, codeset_sixteen_write_1.f]
  split
  · split
    · exact ⟨_, rfl, by simp [strOfNums_size]⟩
    · rw [if_pos (by simp [strOfNums_size])]
      exact ⟨_, rfl, by simp [strOfNums_size, ByteArray.size_append]⟩
  · exact ⟨_, rfl, by decide⟩
theorem wrF_total (n p : Int) : ∃ r, wrF n p = some r ∧ r.1.size ≤ 4 := by
  unfold wrF
  repeat' split
  · exact single_write_total _ _ _
  · exact single_write_total _ _ _
  · exact eight_write_total _
  · exact sixteen_write_total _
  · exact single_write_total _ _ _
/-- A point's bytes in a code set, as the program writes them. -/
def wr (n p : Int) : ByteArray × Bool := (wrF n p).getD (⟨#[]⟩, false)
theorem wrF_eq (n p : Int) : wrF n p = some (wr n p) := by
  obtain ⟨r, h, _⟩ := wrF_total n p
  simp [wr, h]
theorem wr_size (n p : Int) : (wr n p).1.size ≤ 4 := by
  obtain ⟨r, h, hs⟩ := wrF_total n p
  simpa [wr, h] using hs

/-- What Convert has written when pre has come; none where it has left. -/
def accStep (g : Int → ByteArray × Bool) (acc : Option (List UInt8)) (x : Int × Int) : Option (List UInt8) := acc.bind fun a => if x.2 < 0 then none else if (g x.2).2 = true then some (a ++ (g x.2).1.data.toList) else none
def accOf (g : Int → ByteArray × Bool) (l : List (Int × Int)) : Option (List UInt8) := l.foldl (accStep g) (some [])
theorem accOf_snoc (g : Int → ByteArray × Bool) (l : List (Int × Int)) (x : Int × Int) : accOf g (l ++ [x]) = accStep g (accOf g l) x := by simp [accOf]
/-- What Convert answers. -/
def convOf (g : Int → ByteArray × Bool) : List (Int × Int) → List UInt8 → ByteArray × Int × Int
  | [], acc => if (acc.length : Int) > 65536 then (⟨#[]⟩, 0, 4) else (⟨acc.toArray⟩, 0, 0)
  | x :: xs, acc => if x.2 < 0 then (⟨#[]⟩, x.1, 12) else if (g x.2).2 = true then convOf g xs (acc ++ (g x.2).1.data.toList) else (⟨#[]⟩, x.1, 7)
theorem fold_none (g : Int → ByteArray × Bool) (l : List (Int × Int)) : l.foldl (accStep g) none = none := by
  induction l with
  | nil => rfl
  | cons x l ih => simpa [accStep] using ih
theorem conv_through (g : Int → ByteArray × Bool) : ∀ (l : List (Int × Int)) (a acc : List UInt8) (rest : List (Int × Int)), l.foldl (accStep g) (some a) = some acc → convOf g (l ++ rest) a = convOf g rest acc
  | [], a, acc, rest, h => by
    obtain rfl := Option.some.inj h
    rfl
  | x :: l, a, acc, rest, h => by
    simp only [List.foldl_cons, accStep, Option.bind_some] at h
    simp only [List.cons_append, convOf]
    by_cases hx : x.2 < 0
    · rw [if_pos hx, fold_none] at h
      cases h
    · rw [if_neg hx] at h ⊢
      by_cases hg : (g x.2).2 = true
      · rw [if_pos hg] at h ⊢
        exact conv_through g l _ acc rest h
      · rw [if_neg hg, fold_none] at h
        cases h
theorem conv_done {g : Int → ByteArray × Bool} {xs : List (Int × Int)} {acc : List UInt8} (h : accOf g xs = some acc) : convOf g xs [] = if (acc.length : Int) > 65536 then (⟨#[]⟩, 0, 4) else (⟨acc.toArray⟩, 0, 0) := by
  have := conv_through g xs [] acc [] h
  rw [List.append_nil] at this
  rw [this, convOf]
theorem conv_stop {g : Int → ByteArray × Bool} {q xs : List (Int × Int)} {x : Int × Int} {acc : List UInt8} (h : accOf g q = some acc) (hp : (q ++ [x]) <+: xs) (hx : x.2 < 0 ∨ (g x.2).2 = false) : convOf g xs [] = (⟨#[]⟩, x.1, if x.2 < 0 then 12 else 7) := by
  obtain ⟨t, rfl⟩ := hp
  rw [List.append_assoc, conv_through g q [] acc _ h]
  simp only [List.cons_append, convOf]
  by_cases hn : x.2 < 0
  · rw [if_pos hn, if_pos hn]
  · rw [if_neg hn, if_neg hn]
    rcases hx with hx | hx
    · exact absurd hx hn
    · simp [hx]
theorem acc_length {g : Int → ByteArray × Bool} (hg : ∀ p, (g p).1.size ≤ 4) : ∀ (l : List (Int × Int)) (a acc : List UInt8), l.foldl (accStep g) (some a) = some acc → acc.length ≤ a.length + 4 * l.length
  | [], a, acc, h => by
    obtain rfl := Option.some.inj h
    simp
  | x :: l, a, acc, h => by
    simp only [List.foldl_cons, accStep, Option.bind_some] at h
    by_cases hx : x.2 < 0
    · rw [if_pos hx, fold_none] at h
      cases h
    · rw [if_neg hx] at h
      by_cases hg' : (g x.2).2 = true
      · rw [if_pos hg'] at h
        have := acc_length hg l _ acc h
        have h4 : (g x.2).1.data.toList.length ≤ 4 := by rw [Array.length_toList]; exact hg x.2
        rw [List.length_append] at this
        rw [List.length_cons]
        omega
      · rw [if_neg hg', fold_none] at h
        cases h

end Go.Proofs.YtphjfhglapkmhaaDoor.P
