import Derived.Test.YteioboechlnogaaGR
namespace Go.Proofs.Yteioboechlnogaa.P
open Go.Shelf Go.RowKit Go.Proofs.YteioboechlnogaaW.PrintWords Go.Proofs.YteioboechlnogaaW.PrintLast Go.Proofs.YteioboechlnogaaW.PrintMore

/-- What the reference's Convert does behind its reading: from place i on. -/
def convR (g : Int → Option (ByteArray × Bool)) (places : List Int) (bad : Int) : List Int → Nat → List UInt8 → Option (ByteArray × Int × Int)
  | [], _, acc => if bad ≥ 0 then some (⟨#[]⟩, bad, 12) else if (acc.length : Int) > 65536 then some (⟨#[]⟩, 0, 4) else some (⟨acc.toArray⟩, 0, 0)
  | p :: l, i, acc => (g p).bind fun r => if r.2 = true then (if acc.length + r.1.size ≤ 140737488355328 then convR g places bad l (i + 1) (acc ++ r.1.data.toList) else none) else if i < places.length then some (⟨#[]⟩, rd places i, 7) else none
def intermederef12_Convert.f (a b : Int) (s : ByteArray) : Option (ByteArray × Int × Int) :=
  (intermederef12_asked.f 5 s [a, b]).bind fun e => if e = 0 then (intermederef12_read.f (s.size + 20) a s).bind fun r => if r.1.length ≤ 140737488351232 then convR (sgF b) r.2.1 r.2.2 r.1 0 [] else none else some (⟨#[]⟩, 0, e)

theorem two_reads (w : World) (a b : Int) : Kd.C (Kd.int .i64) (w.alloc (.cells #[.int .i64 a, .int .i64 b] 3)) (some ⟨w.heap.size, 0, none⟩) 2 [a, b] := by
  have h := heap_alloc_new w (.cells #[.int .i64 a, .int .i64 b] 3)
  refine Kd.C_of_reads (d := (0 : Int)) (h1 := fun _ => rfl) ⟨rfl, by decide, fun _ => ⟨_, rfl, fun j hj => ?_⟩⟩
  match j, hj with
  | 0, _ => exact (blk_cell h 0).trans rfl
  | 1, _ => exact (blk_cell h 1).trans rfl
theorem rasked2 (w : World) (a b : Int) (s : ByteArray) (e : Int) (ha : intermederef12_asked.f 5 s [a, b] = some e) :
    Calls Try.prog 32 #[.string s, .slice (some ⟨w.heap.size, 0, none⟩) 2 2] (w.alloc (.cells #[.int .i64 a, .int .i64 b] 3)) fun e' w' => e' = .returned (.int .i64 e) ∧ Drawn0 (w.alloc (.cells #[.int .i64 a, .int .i64 b] 3)) w' :=
  intermederef12_asked.calls 5 s (some ⟨w.heap.size, 0, none⟩) 2 [a, b] e _ (two_reads w a b) (Nat.le_refl _) ha

set_option maxHeartbeats 1000000 in
set_option maxRecDepth 100000 in
theorem rconv_asked (a b : Int) (s : ByteArray) (e : Int) (he : e ≠ 0) (ha : intermederef12_asked.f 5 s [a, b] = some e) (w : World) :
    Calls Try.prog 10 #[.int .i64 a, .int .i64 b, .string s] w fun e' w' => e' = .returned (.tuple #[.string ⟨#[]⟩, .int .i64 0, .int .i64 e]) ∧ Below w.heap.size w w' := by
  have HA := Aside0.mk ha
  have hn : (e != 0) = true := by simpa using he
  clear ha he
  go_enter Try.func10, Try.ntmps10
  go_wp2_with (go_at_call 32; refine (rasked2 w a b s e HA.out).mono ?_; rintro e' w' ⟨rfl, ⟨nd, rfl⟩⟩)
  go_ret3
  exact ⟨rfl, pw_below_drewN (below_alloc (Below.refl _ _) _) _⟩


set_option maxHeartbeats 2000000 in
set_option maxRecDepth 100000 in
theorem rconv_go (a b : Int) (s : ByteArray) (pts places : List Int) (bad : Int) (r1 : ByteArray) (r2 r3 : Int) (ha : intermederef12_asked.f 5 s [a, b] = some 0) (hr : intermederef12_read.f (s.size + 20) a s = some (pts, places, bad)) (hl3 : pts.length ≤ 140737488351232)
    (h : convR (sgF b) places bad pts 0 [] = some (r1, r2, r3)) (w : World) :
    Calls Try.prog 10 #[.int .i64 a, .int .i64 b, .string s] w fun e' w' => e' = .returned (.tuple #[.string r1, .int .i64 r2, .int .i64 r3]) ∧ Below w.heap.size w w' := by
  have HA := Aside0.mk ha
  have HR := Aside0.mk hr
  have HT := Aside0.mk h
  clear ha hr h
  go_enter Try.func10, Try.ntmps10
  go_wp2_with (first | (go_at_call 32; refine (rasked2 w a b s 0 HA.out).mono ?_; rintro e' w' ⟨rfl, ⟨nd, rfl⟩⟩) | (go_at_call 33; (with_reducible refine (intermederef12_read.calls (s.size + 20) a s pts places bad _ HR.out).mono ?_); rintro e' w1 ⟨v0, v1, rfl, ho0, ho1, hb⟩; obtain ⟨A0, c0, rfl, hc0, hC0⟩ := Kd.R_reads ho0; obtain ⟨A1, c1, rfl, hc1, hC1⟩ := Kd.R_reads ho1; have HC0 := Aside0.mk hC0; have HC1 := Aside0.mk hC1; have HB := Aside0.mk (below_step (pw_below_drewN (below_alloc (Below.refl w.heap.size w) _) _) hb); clear ho0 ho1 hC0 hC1 hb hc0 hc1))
  go_loopw [35] (fun i wr => ∃ (k : Nat) (acc : List UInt8), k ≤ pts.length ∧ i = .int .i64 k ∧ Aside0 (convR (sgF b) places bad (pts.drop k) k acc = some (r1, r2, r3)) ∧ Aside0 (Lib.IsBuilderF 58 5 w1.heap.size w1.heap.size (Lib.byteCells acc) wr) ∧ Aside0 (Below w1.heap.size w1 wr)) (fun i _ => pts.length - (intOf i).toNat)
  case atStart => exact ⟨0, [], Nat.zero_le _, rfl, HT, ⟨Lib.IsBuilderF.of (Lib.fresh_isBuilder 58 5 w1)⟩, ⟨below_alloc (Below.refl _ _) _⟩⟩
  case round =>
    obtain ⟨k, acc, hk, rfl, HT, HI, HB2⟩ := hrel
    by_cases hlt : k < pts.length
    · have hT := HT.out
      rw [List.drop_eq_getElem_cons hlt] at hT
      simp only [convR] at hT
      obtain ⟨⟨u, ok⟩, hw0, hT⟩ := Option.bind_eq_some_iff.mp hT
      have HW : Aside0 (intermederef12_Sign.f 5 b pts[k] = some (u, ok)) := ⟨hw0⟩
      have hg : rd pts (k : Int) = pts[k] := by simp [rd, hlt]
      obtain ⟨ad, hA, hx⟩ := Kd.at_int (Kd.C_below HC0.out HB2.out) (k : Int) (by omega) (by omega)
      rw [hg] at hx
      subst hA
      simp only [Int.toNat_natCast] at hx
      clear hw0 hg
      dsimp only at hT
      cases ok with
      | false =>
        simp only [Bool.false_eq_true, if_false] at hT
        by_cases hp : k < places.length
        · rw [if_pos hp] at hT
          simp only [Option.some.injEq, Prod.mk.injEq] at hT
          obtain ⟨rfl, rfl, rfl⟩ := hT
          obtain ⟨ad1, hA1, hx1⟩ := Kd.at_int HC1.out (k : Int) (by omega) (by omega)
          subst hA1
          simp only [Int.toNat_natCast] at hx1
          have HX1 := Aside0.mk hx1
          clear hx1
          go_wp2_with (first | (go_at_call 34; (with_reducible refine (intermederef12_Sign.calls 5 b pts[k] u false _ HW.out).mono ?_); rintro e w' ⟨rfl, hb⟩; have HB3 := Aside0.mk (below_step HB2.out hb); clear hb))
          have hx1 := (HB3.out.cell (World.block_lt_of_cell? w1 _ HX1.out)).trans HX1.out
          go_quiet (fail)
          go_wp2
          go_ret3
          exact ⟨rfl, pw_below_drewN (HB.out.trans (HB3.out.mono HB.out.size)) _⟩
        · rw [if_neg hp] at hT
          exact absurd hT (by simp)
      | true =>
        simp only [if_true] at hT
        by_cases hroom : acc.length + u.size ≤ 140737488355328
        · rw [if_pos hroom] at hT
          have HT' := Aside0.mk hT
          have hsz : Aside0 ((Lib.byteCells acc).length + u.size ≤ 140737488355328) := ⟨by rw [Lib.byteCells_length]; exact hroom⟩
          clear hT hroom
          go_wp2_with (first | (go_at_call 34; (with_reducible refine (intermederef12_Sign.calls 5 b pts[k] u true _ HW.out).mono ?_); rintro e w' ⟨rfl, hb⟩; have HB3 := Aside0.mk (below_step HB2.out hb); have HI2 := Aside0.mk (builder_below HI.out hb); clear hb) | (go_at_call 29; refine (B.writeString w1.heap.size w1.heap.size (Lib.byteCells acc) u _ HI2.out hsz.out HB3.out.size).mono ?_; rintro e w' ⟨rfl, hI3, hb3, _⟩))
          go_roundw
          case rel => exact ⟨k + 1, acc ++ u.data.toList, by omega, by go_num, HT', ⟨.inr (by rw [Lib.byteCells_append]; exact hI3)⟩, ⟨HB3.out.trans hb3⟩⟩
          case measure => simp [intOf]; omega
        · rw [if_neg hroom] at hT
          exact absurd hT (by simp)
    · have hk2 : k = pts.length := by omega
      have he := HT.out
      rw [hk2, List.drop_length] at he
      simp only [convR] at he
      by_cases hbad : bad ≥ 0
      · rw [if_pos hbad] at he
        simp only [Option.some.injEq, Prod.mk.injEq] at he
        obtain ⟨rfl, rfl, rfl⟩ := he
        have hb0 : decide (0 ≤ bad) = true := decide_eq_true hbad
        clear hbad
        go_wp2
        go_ret3
        exact ⟨rfl, HB.out.trans (HB2.out.mono HB.out.size)⟩
      · rw [if_neg hbad] at he
        have hbn : decide (0 ≤ bad) = false := decide_eq_false hbad
        clear hbad
        by_cases hbig : (acc.length : Int) > 65536
        · rw [if_pos hbig] at he
          simp only [Option.some.injEq, Prod.mk.injEq] at he
          obtain ⟨rfl, rfl, rfl⟩ := he
          have hb0 : decide ((65536 : Int) < (acc.length : Int)) = true := decide_eq_true hbig
          have hb1 : decide (65536 < acc.length) = true := decide_eq_true (by omega)
          clear hbig
          go_wp2_with (first | (go_at_call 30; refine (Try.Builder_Len_f w1.heap.size w1.heap.size (Lib.byteCells acc) _ HI.out).mono ?_; rintro e w' ⟨rfl, rfl⟩; (try simp only [Lib.byteCells_length])))
          go_ret3
          exact ⟨rfl, HB.out.trans (HB2.out.mono HB.out.size)⟩
        · rw [if_neg hbig] at he
          simp only [Option.some.injEq, Prod.mk.injEq] at he
          obtain ⟨rfl, rfl, rfl⟩ := he
          have hb0 : decide ((65536 : Int) < (acc.length : Int)) = false := decide_eq_false hbig
          have hb1 : decide (65536 < acc.length) = false := decide_eq_false (by omega)
          clear hbig
          go_wp2_with (first | (go_at_call 30; refine (Try.Builder_Len_f w1.heap.size w1.heap.size (Lib.byteCells acc) _ HI.out).mono ?_; rintro e w' ⟨rfl, rfl⟩; (try simp only [Lib.byteCells_length])) | (go_at_call 31; refine (Try.Builder_String_any_f w1.heap.size w1.heap.size acc _ HI.out HB2.out.size).mono ?_; rintro e w' ⟨rfl, _, hb⟩))
          go_ret3
          exact ⟨rfl, HB.out.trans ((HB2.out.trans hb).mono HB.out.size)⟩

theorem intermederef12_Convert.calls (a0 : Int) (a1 : Int) (a2 : ByteArray) (r1 : ByteArray) (r2 : Int) (r3 : Int) (w : World) (h : intermederef12_Convert.f a0 a1 a2 = some (r1, r2, r3)) :
    Calls Try.prog 10 #[.int .i64 a0, .int .i64 a1, .string a2] w fun e w' => e = .returned (.tuple #[.string r1, .int .i64 r2, .int .i64 r3]) ∧ Below w.heap.size w w' := by
  unfold intermederef12_Convert.f at h
  obtain ⟨e, ha, h⟩ := Option.bind_eq_some_iff.mp h
  by_cases he : e = 0
  · subst he
    rw [if_pos rfl] at h
    obtain ⟨⟨pts, places, bad⟩, hr, h⟩ := Option.bind_eq_some_iff.mp h
    dsimp only at h
    by_cases hl : pts.length ≤ 140737488351232
    · rw [if_pos hl] at h
      exact rconv_go a0 a1 a2 pts places bad r1 r2 r3 ha hr hl h w
    · rw [if_neg hl] at h
      exact absurd h (by simp)
  · rw [if_neg he] at h
    simp only [Option.some.injEq, Prod.mk.injEq] at h
    obtain ⟨rfl, rfl, rfl⟩ := h
    exact rconv_asked a0 a1 a2 e he ha w

end Go.Proofs.Yteioboechlnogaa.P
