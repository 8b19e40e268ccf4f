import Derived.Test.YteioboechlnogaaSpec
import Derived.Test.YteioboechlnogaaB
import Derived.Test.YteioboechlnogaaPx4
import Derived.Test.YteioboechlnogaaShelf
namespace Go.Proofs.Yteioboechlnogaa.P
open Go.Shelf Go.RowKit Go.Proofs.YteioboechlnogaaW.PrintWords Go.Proofs.YteioboechlnogaaW.PrintLast Go.Proofs.YteioboechlnogaaW.PrintMore

theorem builder_below {B b : Nat} {bs : List Value} {w w' : World} (h : Lib.IsBuilderF 58 5 B b bs w) (hb : Below w.heap.size w w') : Lib.IsBuilderF 58 5 B b bs w' := by
  rcases h with h | h
  · have hl := h.lt
    obtain ⟨hB, v, hbk, hown, hne⟩ := h
    exact .inl ⟨hB, v, (hb.block b hl).trans hbk, hown.kept (grown_of_below hb none) (Classical.em _), hne⟩
  · have hl := h.lt
    obtain ⟨hB, v, hbk, hown, hne⟩ := h
    exact .inr ⟨hB, v, (hb.block b hl).trans hbk, hown.kept (grown_of_below hb none) (Classical.em _), hne⟩
theorem builder_lt {B b : Nat} {bs : List Value} {w : World} (h : Lib.IsBuilderF 58 5 B b bs w) : b < w.heap.size := by
  rcases h with h | h <;> exact h.lt

theorem is_yes {n : Int} (h1 : 1 ≤ n) (h5 : n ≤ 5) : codeset_is.f n = some true := by simp [codeset_is.f, h1, h5]
theorem is_no {n : Int} (h : ¬ (1 ≤ n ∧ n ≤ 5)) : codeset_is.f n = some false := by
  unfold codeset_is.f
  by_cases h1 : 1 ≤ n
  · rw [if_pos h1]; congr; exact decide_eq_false (fun h5 => h ⟨h1, h5⟩)
  · rw [if_neg h1]

set_option maxHeartbeats 1000000 in
set_option maxRecDepth 100000 in
theorem text_no (n : Int) (A1 : Option Addr) (c1 : Nat) (l1 : List Int) (w : World) (h : ¬ (1 ≤ n ∧ n ≤ 5)) :
    Calls Try.prog 18 #[.int .i64 n, .slice A1 l1.length c1] w fun e w' => e = .returned (.tuple #[.string ⟨#[]⟩, .int .i64 1]) ∧ Below w.heap.size w w' := by
  have H := Aside0.mk (is_no h)
  clear h
  go_enter Try.func18, Try.ntmps18
  go_wp2_with (go_at_call 25; (with_reducible refine (codeset_is.calls n false _ H.out).mono ?_); rintro e w' ⟨rfl, ⟨nd, rfl⟩⟩)
  go_ret2
  exact ⟨rfl, pw_below_drewN (Below.refl _ _) _⟩

set_option maxHeartbeats 1000000 in
set_option maxRecDepth 100000 in
theorem text_long (n : Int) (A1 : Option Addr) (c1 : Nat) (l1 : List Int) (w : World) (h1 : 1 ≤ n) (h5 : n ≤ 5) (hl : 65536 < l1.length) :
    Calls Try.prog 18 #[.int .i64 n, .slice A1 l1.length c1] w fun e w' => e = .returned (.tuple #[.string ⟨#[]⟩, .int .i64 3]) ∧ Below w.heap.size w w' := by
  have H := Aside0.mk (is_yes h1 h5)
  have d0 : decide ((65536 : Int) < (l1.length : Int)) = true := decide_eq_true (by omega)
  have d1 : decide (65536 < l1.length) = true := decide_eq_true (by omega)
  clear h1 h5 hl
  go_enter Try.func18, Try.ntmps18
  go_wp2_with (go_at_call 25; (with_reducible refine (codeset_is.calls n true _ H.out).mono ?_); rintro e w' ⟨rfl, ⟨nd, rfl⟩⟩)
  go_ret2
  exact ⟨rfl, pw_below_drewN (Below.refl _ _) _⟩

set_option maxHeartbeats 2000000 in
set_option maxRecDepth 100000 in
theorem text_go (n : Int) (A1 : Option Addr) (c1 : Nat) (l1 : List Int) (r1 : ByteArray) (r2 : Int) (w : World) (hr1 : Kd.C (Kd.int .i64) w A1 l1.length l1) (h1 : 1 ≤ n) (h5 : n ≤ 5) (hl : ¬ 65536 < l1.length)
    (h : (textF (wrF n) l1 []).bind textEnd = some (r1, r2)) :
    Calls Try.prog 18 #[.int .i64 n, .slice A1 l1.length c1] w fun e w' => e = .returned (.tuple #[.string r1, .int .i64 r2]) ∧ Below w.heap.size w w' := by
  have H := Aside0.mk (is_yes h1 h5)
  have HT := Aside0.mk h
  have HR := Aside0.mk hr1
  have hl3 : l1.length ≤ 65536 := by omega
  have d0 : decide ((65536 : Int) < (l1.length : Int)) = false := decide_eq_false (by omega)
  have d1 : decide (65536 < l1.length) = false := decide_eq_false (by omega)
  have i0 := ix h1 h5
  have m0 := mW h1 h5
  have e0 := eW h1 h5
  clear hl h hr1
  go_enter Try.func18, Try.ntmps18
  go_wp2_with (go_at_call 25; (with_reducible refine (codeset_is.calls n true _ H.out).mono ?_); rintro e w' ⟨rfl, ⟨nd, rfl⟩⟩)
  go_loopw [21] (fun i wr => ∃ (k : Nat) (acc : List UInt8), k ≤ l1.length ∧ i = .int .i64 k ∧ Aside0 ((textF (wrF n) (l1.drop k) acc).bind textEnd = some (r1, r2)) ∧ Aside0 (Lib.IsBuilderF 58 5 w.heap.size w.heap.size (Lib.byteCells acc) wr) ∧ Aside0 (Below w.heap.size w wr)) (fun i _ => l1.length - (intOf i).toNat)
  case atStart =>
    exact ⟨0, [], Nat.zero_le _, rfl, HT, ⟨Lib.IsBuilderF.of (Lib.fresh_isBuilder 58 5 (w.drewN nd))⟩, ⟨below_alloc (pw_below_drewN (Below.refl _ _) _) _⟩⟩
  case round =>
    obtain ⟨k, acc, hk, rfl, HT, HI, HB⟩ := hrel
    by_cases hlt : k < l1.length
    · have hT := HT.out
      rw [List.drop_eq_getElem_cons hlt] at hT
      simp only [textF] at hT
      obtain ⟨⟨bs2, b2⟩, hT, he⟩ := Option.bind_eq_some_iff.mp hT
      obtain ⟨⟨s, ok⟩, hw0, hT⟩ := Option.bind_eq_some_iff.mp hT
      have HW := Aside0.mk hw0
      have hg : rd l1 (k : Int) = l1[k] := by simp [rd, hlt]
      obtain ⟨ad, hA, hx⟩ := Kd.at_int HR.out (k : Int) (by omega) (by omega)
      rw [hg] at hx
      subst hA
      have hx1 := (HB.out.cell (World.block_lt_of_cell? w _ hx)).trans hx
      simp only [Int.toNat_natCast] at hx1
      clear hw0 hx hg
      cases ok with
      | false =>
        simp only [Bool.false_eq_true, if_false, Option.some.injEq, Prod.mk.injEq] at hT
        obtain ⟨rfl, rfl⟩ := hT
        simp [textEnd] at he
        obtain ⟨rfl, rfl⟩ := he
        go_wp2_with (first | (go_at_call 27; refine (sets_calls _).mono ?_; rintro e w' ⟨rfl, rfl⟩) | (go_at_fn (fnW n); refine (write_calls h1 h5 l1[k] s false _ HW).mono ?_; rintro e w' ⟨rfl, hb⟩))
        go_ret2
        exact ⟨rfl, below_step (below_alloc HB.out _) hb⟩
      | true =>
        simp only [if_true] at hT
        by_cases hp : l1[k] < 0
        · rw [if_pos hp] at hT
          simp only [Option.some.injEq, Prod.mk.injEq] at hT
          obtain ⟨rfl, rfl⟩ := hT
          simp [textEnd] at he
          obtain ⟨rfl, rfl⟩ := he
          have hpb : decide (l1[k] < 0) = true := decide_eq_true hp
          clear hp
          go_wp2_with (first | (go_at_call 27; refine (sets_calls _).mono ?_; rintro e w' ⟨rfl, rfl⟩) | (go_at_fn (fnW n); refine (write_calls h1 h5 l1[k] s true _ HW).mono ?_; rintro e w' ⟨rfl, hb⟩))
          go_ret2
          exact ⟨rfl, below_step (below_alloc HB.out _) hb⟩
        · rw [if_neg hp] at hT
          have hpb : decide (l1[k] < 0) = false := decide_eq_false hp
          clear hp
          by_cases hroom : acc.length + s.size ≤ 140737488355328
          · rw [if_pos hroom] at hT
            have HT' := Aside0.mk (show (textF (wrF n) (l1.drop (k + 1)) (acc ++ s.data.toList)).bind textEnd = some (r1, r2) by rw [hT]; exact he)
            have hsz : Aside0 ((Lib.byteCells acc).length + s.size ≤ 140737488355328) := ⟨by rw [Lib.byteCells_length]; exact hroom⟩
            clear hT he hroom
            go_wp2_with (first | (go_at_call 27; refine (sets_calls _).mono ?_; rintro e w' ⟨rfl, rfl⟩) | (go_at_fn (fnW n); refine (write_calls h1 h5 l1[k] s true _ HW).mono ?_; rintro e w' ⟨rfl, hb⟩; have HB2 := Aside0.mk (below_step (below_alloc HB.out setsO) hb); have HI2 := Aside0.mk (builder_below (Lib.IsBuilderF.alloc HI.out setsO) hb); clear hb) | (go_at_call 29; refine (B.writeString w.heap.size w.heap.size (Lib.byteCells acc) s _ HI2.out hsz.out HB2.out.size).mono ?_; rintro e w' ⟨rfl, hI3, hb3, _⟩))
            go_roundw
            case rel => exact ⟨k + 1, acc ++ s.data.toList, by omega, by go_num, HT', ⟨.inr (by rw [Lib.byteCells_append]; exact hI3)⟩, ⟨HB2.out.trans hb3⟩⟩
            case measure => simp [intOf]; omega
          · rw [if_neg hroom] at hT
            exact absurd hT (by simp)
    · have hk2 : k = l1.length := by omega
      have he := HT.out
      rw [hk2, List.drop_length] at he
      simp only [textF, Option.bind_some, textEnd, if_true] at he
      by_cases hbig : (acc.length : Int) > 65536
      · rw [if_pos hbig] at he
        simp only [Option.some.injEq, Prod.mk.injEq] at he
        obtain ⟨rfl, rfl⟩ := he
        have hb0 : decide ((65536 : Int) < (acc.length : Int)) = true := decide_eq_true hbig
        have hb1 : decide (65536 < acc.length) = true := decide_eq_true (by omega)
        clear hbig
        go_wp2_with (first | (go_at_call 30; refine (Try.Builder_Len_f w.heap.size w.heap.size (Lib.byteCells acc) _ HI.out).mono ?_; rintro e w' ⟨rfl, rfl⟩; (try simp only [Lib.byteCells_length])))
        go_ret2
        exact ⟨rfl, HB.out⟩
      · rw [if_neg hbig] at he
        simp only [Option.some.injEq, Prod.mk.injEq] at he
        obtain ⟨rfl, rfl⟩ := he
        have hb0 : decide ((65536 : Int) < (acc.length : Int)) = false := decide_eq_false hbig
        have hb1 : decide (65536 < acc.length) = false := decide_eq_false (by omega)
        clear hbig
        go_wp2_with (first | (go_at_call 30; refine (Try.Builder_Len_f w.heap.size w.heap.size (Lib.byteCells acc) _ HI.out).mono ?_; rintro e w' ⟨rfl, rfl⟩; (try simp only [Lib.byteCells_length])) | (go_at_call 31; refine (Try.Builder_String_any_f w.heap.size w.heap.size acc _ HI.out HB.out.size).mono ?_; rintro e w' ⟨rfl, _, hb⟩))
        go_ret2
        exact ⟨rfl, HB.out.trans hb⟩

theorem codeset_Text.calls (a0 : Int) (A1 : Option Addr) (c1 : Nat) (l1 : List Int) (r1 : ByteArray) (r2 : Int) (w : World) (hr1 : Kd.C (Kd.int .i64) w A1 l1.length l1) (_hc1 : l1.length ≤ c1) (h : codeset_Text.f a0 l1 = some (r1, r2)) :
    Calls Try.prog 18 #[.int .i64 a0, .slice A1 l1.length c1] w fun e w' => e = .returned (.tuple #[.string r1, .int .i64 r2]) ∧ Below w.heap.size w w' := by
  unfold codeset_Text.f at h
  by_cases hn : 1 ≤ a0 ∧ a0 ≤ 5
  · rw [if_pos hn] at h
    by_cases hl : (l1.length : Int) > 65536
    · rw [if_pos hl] at h
      obtain ⟨rfl, rfl⟩ := Prod.mk.inj (Option.some.inj h)
      exact text_long a0 A1 c1 l1 w hn.1 hn.2 (by omega)
    · rw [if_neg hl] at h
      exact text_go a0 A1 c1 l1 r1 r2 w hr1 hn.1 hn.2 (by omega) h
  · rw [if_neg hn] at h
    obtain ⟨rfl, rfl⟩ := Prod.mk.inj (Option.some.inj h)
    exact text_no a0 A1 c1 l1 w hn

end Go.Proofs.Yteioboechlnogaa.P
