import Derived.RangeFuncFrom
import Derived.Test.YteioboechlnogaaGJ
import Derived.Test.YteioboechlnogaaPx4
namespace Go.Proofs.Yteioboechlnogaa.P
open Go.Shelf Go.RowKit Go.Proofs.YteioboechlnogaaW.PrintWords Go.Proofs.YteioboechlnogaaW.PrintLast Go.Proofs.YteioboechlnogaaW.PrintMore
attribute [local go_sem] Oper.semAt_some

theorem cell_new_l (w : World) (v : Value) (t : TypeId) : (w.alloc (.cells #[v] t)).cell? ⟨w.heap.size, 0, none⟩ = some v ∧ (w.alloc (.cells #[v] t)).frozen? ⟨w.heap.size, 0, none⟩ = false := by
  have h := heap_alloc_new w (.cells #[v] t)
  exact ⟨(blk_cell h 0).trans rfl, blk_frozen h 0⟩
theorem cell_alloc_l {w : World} {a : Addr} {v : Value} (o : Obj) (h : w.cell? a = some v) : (w.alloc o).cell? a = some v := ((below_alloc (Below.refl w.heap.size w) o).cell (World.block_lt_of_cell? w _ h)).trans h

def rightOf (xs : List (Int × Int)) (len : Int) : Int × Int := match xs.find? (fun x => decide (x.2 < 0)) with | some x => (x.1, 12) | none => (len, 0)

def NoNeg (l : List (Int × Int)) : Prop := ∀ y ∈ l, ¬ y.2 < 0
theorem NoNeg.snoc {l : List (Int × Int)} {x : Int × Int} (h : NoNeg l) (hx : ¬ x.2 < 0) : NoNeg (l ++ [x]) := by
  intro y hy
  rcases List.mem_append.1 hy with hy | hy
  · exact h y hy
  · rw [List.mem_singleton] at hy
    rw [hy]
    exact hx
theorem rightOf_none {l : List (Int × Int)} (h : NoNeg l) (len : Int) : rightOf l len = (len, 0) := by
  have : l.find? (fun x => decide (x.2 < 0)) = none := List.find?_eq_none.2 (fun y hy => by simpa using h y hy)
  simp [rightOf, this]
theorem rightOf_some {q : List (Int × Int)} {x : Int × Int} {xs : List (Int × Int)} (h : NoNeg q) (hx : x.2 < 0) (hp : (q ++ [x]) <+: xs) (len : Int) : rightOf xs len = (x.1, 12) := by
  obtain ⟨t, rfl⟩ := hp
  have : q.find? (fun x => decide (x.2 < 0)) = none := List.find?_eq_none.2 (fun y hy => by simpa using h y hy)
  simp [rightOf, List.find?_append, this, hx]

set_option maxRecDepth 100000 in
set_option maxHeartbeats 2000000 in
theorem right_go (kk : Nat) (n : Int) (h1 : 1 ≤ n) (h5 : n ≤ 5) (s : ByteArray) (fuel : Nat) (xs : List (Int × Int)) (hs : s.size ≤ 140737488351232) (ha : codeset_asked.f n s = some 0)
    (hx : seqF (nxF kk n) s fuel 0 = some xs) (w : World) :
    Calls Try.prog 20 #[.int .i64 n, .string s] w fun e w' => e = .returned (.tuple #[.int .i64 (rightOf xs s.size).1, .int .i64 (rightOf xs s.size).2]) ∧ Below w.heap.size w w' := by
  have HA := Aside0.mk ha
  have HX := Aside0.mk hx
  clear ha hx
  refine (callsIn_wide (n := 3)).1 ?_
  refine callsIn_of_wp_marks Try.func20 rfl trivial ?_ rfl
  simp only [Try.ntmps20, List.size_toArray, List.length_cons, List.length_nil, Nat.reduceAdd, Nat.reduceSub, Array.replicate_succ, Array.replicate_zero, List.push_toArray, List.append_toArray, List.nil_append, List.cons_append]
  gi_wp2_with (first | (refine ⟨trivial, ?_⟩; gi_at_call 39; refine (callsIn_wide.2 (codeset_asked.calls n s 0 _ HA.out)).mono ?_; rintro e w' ⟨rfl, ⟨nd, rfl⟩⟩) | (refine ⟨trivial, ?_⟩; gi_at_call 28; refine (callsIn_wide.2 (points_calls n s _)).mono ?_; rintro e w' ⟨rfl, rfl⟩))
  generalize hW0 : ((((w.alloc (Obj.cells #[Value.int IntKind.i64 0] 3)).alloc (Obj.cells #[Value.int IntKind.i64 0] 24)).drewN nd).alloc (Obj.cells #[Value.int IntKind.i64 n] 3)).alloc (Obj.cells #[Value.string s] 9) = W0
  have hsz : W0.heap.size = w.heap.size + 4 := by rw [← hW0]; simp
  have a1 := cell_new_l w (.int .i64 0) 3
  have a3 := cell_new_l (((w.alloc (Obj.cells #[Value.int IntKind.i64 0] 3)).alloc (Obj.cells #[Value.int IntKind.i64 0] 24)).drewN nd) (.int .i64 n) 3
  have a4 := cell_new_l ((((w.alloc (Obj.cells #[Value.int IntKind.i64 0] 3)).alloc (Obj.cells #[Value.int IntKind.i64 0] 24)).drewN nd).alloc (Obj.cells #[Value.int IntKind.i64 n] 3)) (.string s) 9
  have b1 : Below (w.alloc (Obj.cells #[Value.int IntKind.i64 0] 3)).heap.size (w.alloc (Obj.cells #[Value.int IntKind.i64 0] 3)) W0 := by rw [← hW0]; exact below_alloc (below_alloc (pw_below_drewN (below_alloc (Below.refl _ _) _) _) _) _
  have b2 : Below ((w.alloc (Obj.cells #[Value.int IntKind.i64 0] 3)).alloc (Obj.cells #[Value.int IntKind.i64 0] 24)).heap.size ((w.alloc (Obj.cells #[Value.int IntKind.i64 0] 3)).alloc (Obj.cells #[Value.int IntKind.i64 0] 24)) W0 := by rw [← hW0]; exact below_alloc (below_alloc (pw_below_drewN (Below.refl _ _) _) _) _
  have c4 : W0.cell? ⟨w.heap.size, 0, none⟩ = some (.int .i64 0) := (b1.cell (p := ⟨w.heap.size, 0, none⟩) (by simp)).trans a1.1
  have f4 : W0.frozen? ⟨w.heap.size, 0, none⟩ = false := (b1.frozen (p := ⟨w.heap.size, 0, none⟩) (by simp)).trans a1.2
  have c5 : W0.cell? ⟨w.heap.size + 1, 0, none⟩ = some (.int .i64 0) := (b2.cell (p := ⟨w.heap.size + 1, 0, none⟩) (by simp)).trans (by simp)
  have f5 : W0.frozen? ⟨w.heap.size + 1, 0, none⟩ = false := (b2.frozen (p := ⟨w.heap.size + 1, 0, none⟩) (by simp)).trans (by simp)
  have cs : W0.cell? ⟨w.heap.size + 1 + 1 + 1, 0, none⟩ = some (.string s) := by rw [← hW0]; simpa using a4.1
  have cn : W0.cell? ⟨w.heap.size + 1 + 1, 0, none⟩ = some (.int .i64 n) := by rw [← hW0]; exact cell_alloc_l _ (by simpa using a3.1)
  have hB0 : Below w.heap.size w W0 := by rw [← hW0]; exact below_alloc (below_alloc (pw_below_drewN (below_alloc (below_alloc (Below.refl _ _) _) _) _) _) _
  clear a1 a3 a4 b1 b2
  clear hW0
  refine wpIn_rangeFunc_ownF rfl (by omega) (gf := 42) (lb := #[.pointer (some ⟨w.heap.size + 1 + 1, 0, none⟩), .pointer (some ⟨w.heap.size + 1 + 1 + 1, 0, none⟩)]) rfl trivial (enters_of Try.func42 (by kernel_rfl) rfl)
    (points_stops _ kk n h1 h5 s _ _ fuel xs (by omega) hs HX.out W0 cn cs) kp2_t (fun W l o o' _ h hc _ => kp2_b W l o o' h hc) (Below.refl _ _) (fun _ => rfl)
    (fun pre W => (NoNeg pre ∧ W.cell? ⟨w.heap.size, 0, none⟩ = some (.int .i64 0) ∧ W.frozen? ⟨w.heap.size, 0, none⟩ = false ∧ W.cell? ⟨w.heap.size + 1, 0, none⟩ = some (.int .i64 0) ∧ W.frozen? ⟨w.heap.size + 1, 0, none⟩ = false) ∧ Below w.heap.size w W)
    (fun c pre W => (c = .ret ∧ ∃ q x, pre = q ++ [x] ∧ x.2 < 0 ∧ NoNeg q ∧ W.cell? ⟨w.heap.size, 0, none⟩ = some (.int .i64 x.1) ∧ W.cell? ⟨w.heap.size + 1, 0, none⟩ = some (.int .i64 12)) ∧ Below w.heap.size w W)
    (OwnFrom.and (Own.from (fun s A B row hs hg hr => ⟨hs.1, cell_kept hs.2.1 hg hr, (frozen_kept hs.2.1 hg hr).trans hs.2.2.1, cell_kept hs.2.2.2.1 hg hr, (frozen_kept hs.2.2.2.1 hg hr).trans hs.2.2.2.2⟩) _) (ownFrom_below (Nat.le_refl _) (by omega)))
    (fun c => OwnFrom.and (Own.from (fun s A B row hs hg hr => by
      obtain ⟨h0, q, x, hq, hx, hp, ha, hb⟩ := hs
      exact ⟨h0, q, x, hq, hx, hp, cell_kept ha hg hr, cell_kept hb hg hr⟩) _) (ownFrom_below (Nat.le_refl _) (by omega)))
    ⟨⟨fun y hy => absurd hy (by simp), c4, f4, c5, f5⟩, hB0⟩
    (fun x => { tmps := #[.int .i64 n, .string s, undef, undef, .pointer (some ⟨w.heap.size, 0, none⟩), .pointer (some ⟨w.heap.size + 1, 0, none⟩), .int .i64 0, .int .i64 x.1, .int .i64 x.2, .int .i64 n, .string s, .int .i64 0, .int .i64 0, .bool false, undef, .int .i64 n, .string s, .func (.func 42) #[] #[.pointer (some ⟨w.heap.size + 1 + 1, 0, none⟩), .pointer (some ⟨w.heap.size + 1 + 1 + 1, 0, none⟩)], .int .i64 x.1, .int .i64 x.2, undef, undef, undef, undef, undef], defers := [] }) ?assign ?body ?done ?stop
  case assign =>
    intro l x W K hK
    gi_wp2
    exact hK
  case body =>
    rintro l pre x W ⟨⟨hp, c4, f4, c5, f5⟩, hB⟩ _
    by_cases hx : x.2 < 0
    · have hxb : decide (x.2 < 0) = true := decide_eq_true hx
      gi_wp2
      exact ⟨(KeepsOthers.setCell _ _ _).trans (KeepsOthers.setCell _ _ _), ⟨rfl, pre, x, rfl, hx, hp, by go_simp, by go_simp⟩, (hB.setCell (p := ⟨w.heap.size, 0, none⟩) (Nat.le_refl _) _).setCell (p := ⟨w.heap.size + 1, 0, none⟩) (by simp) _⟩
    · have hxb : decide (x.2 < 0) = false := decide_eq_false hx
      gi_wp2
      exact ⟨KeepsOthers.refl _, fun _ _ _ h => h, ⟨hp.snoc (by omega), c4, f4, c5, f5⟩, hB⟩
  case done =>
    rintro D ys W hD rfl ⟨⟨hne, c4, f4, c5, f5⟩, hB⟩ hK
    gi_wp2
    have hK' := ((KeepsOthers.setCell W ⟨w.heap.size, 0, none⟩ (.int .i64 s.size)).trans (KeepsOthers.setCell _ ⟨w.heap.size + 1, 0, none⟩ (.int .i64 0))).same D _ hK rfl
    have e5 := World.cell?_setCell_same' (W.setCell ⟨w.heap.size, 0, none⟩ (.int .i64 s.size)) ⟨w.heap.size + 1, 0, none⟩ (.int .i64 0) (by go_simp)
    have e4 : ((W.setCell ⟨w.heap.size, 0, none⟩ (.int .i64 s.size)).setCell ⟨w.heap.size + 1, 0, none⟩ (.int .i64 0)).cell? ⟨w.heap.size, 0, none⟩ = some (.int .i64 s.size) := by go_simp
    have g4 := cell_kept e4 (grownBy_putObj' _ D (.deferred none)) (fun r e => by cases e; exact ⟨_, hK', rfl⟩)
    have g5 := cell_kept e5 (grownBy_putObj' _ D (.deferred none)) (fun r e => by cases e; exact ⟨_, hK', rfl⟩)
    refine ⟨by simp, .inl ⟨_, _, rfl, run_takeDeferred hK', ?_⟩⟩
    refine ⟨.tuple #[.int .i64 s.size, .int .i64 0], by simp [results, Try.f20, go_sem, g4, g5], by rw [rightOf_none hne], ((hB.setCell (p := ⟨w.heap.size, 0, none⟩) (Nat.le_refl _) _).setCell (p := ⟨w.heap.size + 1, 0, none⟩) (by simp) _).trans (belowK_b (w := w) (Nat.le_refl _) _ D _ _ (by omega) hK' rfl rfl)⟩
  case stop =>
    rintro D c pre W hD hpre ⟨⟨rfl, q, x, rfl, hx, hq, ca, cb⟩, hB⟩ hK
    gi_wp2
    have g4 := cell_kept ca (grownBy_putObj' _ D (.deferred none)) (fun r e => by cases e; exact ⟨_, hK, rfl⟩)
    have g5 := cell_kept cb (grownBy_putObj' _ D (.deferred none)) (fun r e => by cases e; exact ⟨_, hK, rfl⟩)
    refine ⟨by simp, .inl ⟨_, _, rfl, run_takeDeferred hK, ?_⟩⟩
    refine ⟨.tuple #[.int .i64 x.1, .int .i64 12], by simp [results, Try.f20, go_sem, g4, g5], by rw [rightOf_some hq hx hpre], hB.trans (belowK_b (w := w) (Nat.le_refl _) W D _ _ (by omega) hK rfl rfl)⟩


set_option maxHeartbeats 1000000 in
set_option maxRecDepth 100000 in
theorem right_asked (n : Int) (s : ByteArray) (e : Int) (he : e ≠ 0) (ha : codeset_asked.f n s = some e) (w : World) :
    Calls Try.prog 20 #[.int .i64 n, .string s] w fun e' w' => e' = .returned (.tuple #[.int .i64 0, .int .i64 e]) ∧ Below w.heap.size w w' := by
  have HA := Aside0.mk ha
  have hn : (e != 0) = true := by simpa using he
  clear ha he
  go_enter Try.func20, Try.ntmps20
  go_wp2_with (go_at_call 39; refine (codeset_asked.calls n s e _ HA.out).mono ?_; rintro e' w' ⟨rfl, ⟨nd, rfl⟩⟩)
  exact bodyPost_ret (v := .tuple #[.int .i64 0, .int .i64 e]) (by simp [results, Try.f20, go_sem]) rfl ⟨rfl, by repeat (first | exact Below.refl _ _ | apply below_alloc | apply pw_below_drewN | apply below_drew1 | refine below_set ?_ (Nat.le_refl _) | refine below_set ?_ (Nat.le_succ _))⟩


def codeset_Right.f (n : Int) (s : ByteArray) : Option (Int × Int) := (codeset_asked.f n s).bind fun e => if e = 0 then (seqF (nxF 16 n) s (s.size + 1) 0).bind fun xs => some (rightOf xs s.size) else some (0, e)

theorem asked_zero {n : Int} {s : ByteArray} (h : codeset_asked.f n s = some 0) : 1 ≤ n ∧ n ≤ 5 ∧ s.size ≤ 65536 := by
  unfold codeset_asked.f codeset_is.f at h
  by_cases h1 : n ≥ 1
  · rw [if_pos h1] at h
    by_cases h5 : n ≤ 5
    · simp [h5] at h
      omega
    · simp [h5] at h
  · rw [if_neg h1] at h
    simp at h

theorem codeset_Right.calls (a0 : Int) (a1 : ByteArray) (r1 : Int) (r2 : Int) (w : World) (h : codeset_Right.f a0 a1 = some (r1, r2)) :
    Calls Try.prog 20 #[.int .i64 a0, .string a1] w fun e w' => e = .returned (.tuple #[.int .i64 r1, .int .i64 r2]) ∧ Below w.heap.size w w' := by
  unfold codeset_Right.f at h
  obtain ⟨e, ha, h⟩ := Option.bind_eq_some_iff.mp h
  by_cases he : e = 0
  · subst he
    rw [if_pos rfl] at h
    obtain ⟨xs, hx, h⟩ := Option.bind_eq_some_iff.mp h
    obtain ⟨h1, h5, hs⟩ := asked_zero ha
    have := right_go 16 a0 h1 h5 a1 _ xs (by omega) ha hx w
    rw [Option.some.inj h] at this
    exact this
  · rw [if_neg he] at h
    obtain ⟨rfl, rfl⟩ := Prod.mk.inj (Option.some.inj h)
    exact right_asked a0 a1 e he ha w

end Go.Proofs.Yteioboechlnogaa.P
