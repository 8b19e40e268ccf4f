import Derived.RangeFuncBox
import Derived.Maps.AppendAt
import Derived.Test.YteioboechlnogaaGRt
namespace Go.Proofs.Yteioboechlnogaa.P
open Go.Shelf Go.RowKit Go.Proofs.YteioboechlnogaaW.PrintWords Go.Proofs.YteioboechlnogaaW.PrintLast Go.Proofs.YteioboechlnogaaW.PrintMore
attribute [local go_sem] Oper.semAt_some

theorem infoInt : (Try.prog.info? 3).map (fun i => (i.zero, i.size, i.bytes)) = some (some (.int .i64 0), 1, 8) := by kernel_rfl

theorem appended2 {W w1 : World} {n₀ b0 B : Nat} {t e : TypeId} {size : Nat} {v v' : Value} {k m : Nat} {xs ys : List Value} {tmp : Obj}
    (hv : Boxed W B t v) (hte : t ≠ e) (hrow : W.ownsRow b0 e size v k xs) (hnb : n₀ ≤ b0) (hbW : b0 ≤ W.heap.size) (hB : n₀ ≤ B)
    (hown' : w1.ownsRow b0 e size v' m ys) (hgrow : (W.alloc tmp).grownBy w1 v.ownBlock) :
    Boxed w1 B t v ∧ Boxed (w1.setCell ⟨B, 0, none⟩ v') B t v' ∧ (w1.setCell ⟨B, 0, none⟩ v').ownsRow b0 e size v' m ys ∧ KeepsOthers W (w1.setCell ⟨B, 0, none⟩ v') ∧ Below n₀ W (w1.setCell ⟨B, 0, none⟩ v') ∧
      (∀ b, b < b0 → b ≠ B → (w1.setCell ⟨B, 0, none⟩ v').heap[b]? = W.heap[b]?) := by
  obtain ⟨a1, a2, _, a4, a5⟩ := hv.appended hte (own_weaken hrow hnb) (Nat.le_trans hnb hbW) hB (own_weaken hown' hnb) hgrow
  refine ⟨a1, a2, hown'.kept (grownBy_setCell' w1 B v') (.inr (a1.not_row hte hown').symm), a4, a5, fun b hb hne => ?_⟩
  rw [Below.heap_setCell _ _ _ _ hne, hgrow.block b (by simp; omega) (fun e' => by have := (hrow.lt b e'.symm).1; omega)]
  exact (below_alloc (Below.refl _ _) tmp).block b (by omega)

theorem cell_of_block {W W' : World} {b : Nat} (h : W'.heap[b]? = W.heap[b]?) (j : Nat) : W'.cell? ⟨b, j, none⟩ = W.cell? ⟨b, j, none⟩ := by simp [World.cell?, h]
theorem frozen_of_block {W W' : World} {b : Nat} (h : W'.heap[b]? = W.heap[b]?) (j : Nat) : W'.frozen? ⟨b, j, none⟩ = W.frozen? ⟨b, j, none⟩ := by simp [World.frozen?, h]
theorem kp2_blocks {Bn Bs : Nat} {W W' : World} (h1 : W'.heap[Bn]? = W.heap[Bn]?) (h2 : W'.heap[Bs]? = W.heap[Bs]?) : Kp2 Bn Bs W W' := by
  rintro b v (rfl | rfl) hv
  · exact (cell_of_block h1 0).trans hv
  · exact (cell_of_block h2 0).trans hv
def ptsOf (xs : List (Int × Int)) : List Int × Int := if (xs.any fun x => decide (x.2 < 0)) = true then ([], 12) else (xs.map (·.2), 0)
theorem ptsOf_none {l : List (Int × Int)} (h : NoNeg l) : ptsOf l = (l.map (·.2), 0) := by
  unfold ptsOf
  rw [if_neg]
  rw [List.any_eq_true]
  rintro ⟨y, hy, hn⟩
  exact h y hy (of_decide_eq_true hn)
theorem ptsOf_some {q : List (Int × Int)} {x : Int × Int} {xs : List (Int × Int)} (hx : x.2 < 0) (hp : (q ++ [x]) <+: xs) : ptsOf xs = ([], 12) := by
  unfold ptsOf
  rw [if_pos]
  rw [List.any_eq_true]
  exact ⟨x, hp.subset (by simp), decide_eq_true hx⟩
def ptsVals (l : List (Int × Int)) : List Value := l.map fun x => .int .i64 x.2
theorem ptsVals_snoc (l : List (Int × Int)) (x : Int × Int) : ptsVals (l ++ [x]) = ptsVals l ++ [.int .i64 x.2] := by simp [ptsVals]

set_option maxRecDepth 100000 in
set_option maxHeartbeats 2000000 in
theorem points_go (kk : Nat) (n : Int) (h1 : 1 ≤ n) (h5 : n ≤ 5) (s : ByteArray) (fuel : Nat) (xs : List (Int × Int)) (hs : s.size ≤ 140737488351232) (ha : codeset_asked.f n s = some 0)
    (hx : seqF (nxF kk n) s fuel 0 = some xs) (hlen : xs.length * 8 ≤ 140737488351232) (w : World) :
    Calls Try.prog 16 #[.int .i64 n, .string s] w fun e w' => ∃ v0_ : Value, e = .returned (.tuple #[v0_, .int .i64 (ptsOf xs).2]) ∧ Kd.R (Kd.int .i64) 3 w' w.heap.size (fun _ => True) v0_ (ptsOf xs).1 ∧ Below w.heap.size w w' := by
  have HA := Aside0.mk ha
  have HX := Aside0.mk hx
  clear ha hx
  obtain ⟨i0, hi, hz0, hz1, hz2⟩ := info_parts infoInt
  refine (callsIn_wide (n := 3)).1 ?_
  refine callsIn_of_wp_marks Try.func16 rfl trivial ?_ rfl
  simp only [Try.ntmps16, List.size_toArray, List.length_cons, List.length_nil, Nat.reduceAdd, Nat.reduceSub, Array.replicate_succ, Array.replicate_zero, List.push_toArray, List.append_toArray, List.nil_append, List.cons_append]
  gi_wp2_with (first | (refine ⟨trivial, ?_⟩; gi_at_call 39; refine (callsIn_wide.2 (codeset_asked.calls n s 0 _ HA.out)).mono ?_; rintro e w' ⟨rfl, ⟨nd, rfl⟩⟩) | (refine ⟨trivial, ?_⟩; gi_at_call 28; refine (callsIn_wide.2 (points_calls n s _)).mono ?_; rintro e w' ⟨rfl, rfl⟩))
  generalize hW0 : (((((w.alloc (Obj.cells #[Value.slice none 0 0] 32)).alloc (Obj.cells #[Value.int IntKind.i64 0] 24)).drewN nd).alloc (Obj.cells #[Value.slice none 0 0] 32)).alloc (Obj.cells #[Value.int IntKind.i64 n] 3)).alloc (Obj.cells #[Value.string s] 9) = W0
  have hsz : W0.heap.size = w.heap.size + 5 := by rw [← hW0]; simp
  have x1 : Boxed W0 w.heap.size 32 (.slice none 0 0) := by
    rw [← hW0]; exact (((show Boxed (((w.alloc (Obj.cells #[Value.slice none 0 0] 32)).alloc (Obj.cells #[Value.int IntKind.i64 0] 24)).drewN nd) _ _ _ from (Boxed.new w 32 (.slice none 0 0)).alloc _).alloc _).alloc _).alloc _
  have x2 : Boxed W0 (w.heap.size + 1) 24 (.int .i64 0) := by
    have := Boxed.new (w.alloc (Obj.cells #[Value.slice none 0 0] 32)) 24 (.int .i64 0)
    rw [World.size_alloc] at this
    rw [← hW0]; exact (((show Boxed (((w.alloc (Obj.cells #[Value.slice none 0 0] 32)).alloc (Obj.cells #[Value.int IntKind.i64 0] 24)).drewN nd) _ _ _ from this).alloc _).alloc _).alloc _
  have x3 : Boxed W0 (w.heap.size + 1 + 1) 32 (.slice none 0 0) := by
    have := Boxed.new (((w.alloc (Obj.cells #[Value.slice none 0 0] 32)).alloc (Obj.cells #[Value.int IntKind.i64 0] 24)).drewN nd) 32 (.slice none 0 0)
    rw [show (((w.alloc (Obj.cells #[Value.slice none 0 0] 32)).alloc (Obj.cells #[Value.int IntKind.i64 0] 24)).drewN nd).heap.size = w.heap.size + 1 + 1 by simp] at this
    rw [← hW0]; exact (this.alloc _).alloc _
  have x4 : Boxed W0 (w.heap.size + 1 + 1 + 1) 3 (.int .i64 n) := by
    have := Boxed.new ((((w.alloc (Obj.cells #[Value.slice none 0 0] 32)).alloc (Obj.cells #[Value.int IntKind.i64 0] 24)).drewN nd).alloc (Obj.cells #[Value.slice none 0 0] 32)) 3 (.int .i64 n)
    rw [show ((((w.alloc (Obj.cells #[Value.slice none 0 0] 32)).alloc (Obj.cells #[Value.int IntKind.i64 0] 24)).drewN nd).alloc (Obj.cells #[Value.slice none 0 0] 32)).heap.size = w.heap.size + 1 + 1 + 1 by simp] at this
    rw [← hW0]; exact this.alloc _
  have x5 : Boxed W0 (w.heap.size + 1 + 1 + 1 + 1) 9 (.string s) := by
    have := Boxed.new (((((w.alloc (Obj.cells #[Value.slice none 0 0] 32)).alloc (Obj.cells #[Value.int IntKind.i64 0] 24)).drewN nd).alloc (Obj.cells #[Value.slice none 0 0] 32)).alloc (Obj.cells #[Value.int IntKind.i64 n] 3)) 9 (.string s)
    rw [show (((((w.alloc (Obj.cells #[Value.slice none 0 0] 32)).alloc (Obj.cells #[Value.int IntKind.i64 0] 24)).drewN nd).alloc (Obj.cells #[Value.slice none 0 0] 32)).alloc (Obj.cells #[Value.int IntKind.i64 n] 3)).heap.size = w.heap.size + 1 + 1 + 1 + 1 by simp] at this
    rw [← hW0]; exact this
  have hB0 : Below w.heap.size w W0 := by rw [← hW0]; exact below_alloc (below_alloc (below_alloc (pw_below_drewN (below_alloc (below_alloc (Below.refl _ _) _) _) _) _) _) _
  clear hW0
  refine wpIn_rangeFunc_ownF rfl (by omega) (gf := 42) (lb := #[.pointer (some ⟨w.heap.size + 1 + 1 + 1, 0, none⟩), .pointer (some ⟨w.heap.size + 1 + 1 + 1 + 1, 0, none⟩)]) rfl trivial (enters_of Try.func42 (by kernel_rfl) rfl)
    (points_stops _ kk n h1 h5 s _ _ fuel xs (by omega) hs HX.out W0 x4.cell x5.cell) kp2_t (fun W l o o' _ h hc _ => kp2_b W l o o' h hc) (Below.refl _ _) (fun _ => rfl)
    (fun pre W => ((∃ v, Boxed W (w.heap.size + 1 + 1) 32 v ∧ W.ownsRow (w.heap.size + 5) 3 1 v pre.length (ptsVals pre) ∧ NoNeg pre) ∧ (Boxed W w.heap.size 32 (.slice none 0 0) ∧ Boxed W (w.heap.size + 1) 24 (.int .i64 0) ∧ Boxed W (w.heap.size + 1 + 1 + 1 + 1) 9 (.string s))) ∧ Below w.heap.size w W)
    (fun c pre W => (c = .ret ∧ (∃ (q : List (Int × Int)) (x : Int × Int), pre = q ++ [x] ∧ x.2 < 0) ∧ Boxed W w.heap.size 32 (.slice none 0 0) ∧ Boxed W (w.heap.size + 1) 24 (.int .i64 12)) ∧ Below w.heap.size w W)
    (OwnFrom.and (OwnFrom.and (Own.from (holdsRow_own (w.heap.size + 5) (w.heap.size + 1 + 1) 32 3 1 (fun pre : List (Int × Int) => pre.length) ptsVals (fun pre _ => NoNeg pre)) _)
      (Own.from (fun _ A B row hs hg hr => ⟨boxed_own _ _ (fun _ : Unit => .slice none 0 0) () A B row hs.1 hg hr, boxed_own _ _ (fun _ : Unit => .int .i64 0) () A B row hs.2.1 hg hr, boxed_own _ _ (fun _ : Unit => .string s) () A B row hs.2.2 hg hr⟩) _)) (ownFrom_below (Nat.le_refl _) (by omega)))
    (fun c => OwnFrom.and (Own.from (fun s A B row hs hg hr => ⟨hs.1, hs.2.1, boxed_own _ _ (fun _ : Unit => .slice none 0 0) () A B row hs.2.2.1 hg hr, boxed_own _ _ (fun _ : Unit => .int .i64 12) () A B row hs.2.2.2 hg hr⟩) _) (ownFrom_below (Nat.le_refl _) (by omega)))
    ⟨⟨⟨_, x3, World.ownsRow_nil _ _ _ _, fun y hy => absurd hy (by simp)⟩, x1, x2, x5⟩, hB0⟩
    (fun x => { tmps := #[.int .i64 n, .string s, undef, undef, .pointer (some ⟨w.heap.size, 0, none⟩), .pointer (some ⟨w.heap.size + 1, 0, none⟩), .int .i64 0, .pointer (some ⟨w.heap.size + 1 + 1, 0, none⟩), undef, .int .i64 x.2, .int .i64 n, .string s, .int .i64 0, .int .i64 0, .bool false, undef, .int .i64 n, .string s, .func (.func 42) #[] #[.pointer (some ⟨w.heap.size + 1 + 1 + 1, 0, none⟩), .pointer (some ⟨w.heap.size + 1 + 1 + 1 + 1, 0, none⟩)], .int .i64 x.1, .int .i64 x.2, undef, undef, undef, undef, undef, undef, undef], defers := [] }) ?assign ?body ?done ?stop
  case assign =>
    intro l x W K hK
    gi_wp2
    exact hK
  case body =>
    rintro l pre x W ⟨⟨⟨v, hv, hrow, hp⟩, r1, r2, r3⟩, hB⟩ hlt
    have hc := hv.cell
    have hr1 := r1.cell
    have hr2 := r2.cell
    have hf1 := r1.frozen
    have hf2 := r2.frozen
    have hlt3 := r3.lt
    have hHp := Aside0.mk hp
    clear hp
    by_cases hx : x.2 < 0
    · have hxb : decide (x.2 < 0) = true := decide_eq_true hx
      gi_wp2
      exact ⟨(KeepsOthers.setCell _ _ _).trans (KeepsOthers.setCell _ _ _), ⟨rfl, ⟨pre, x, rfl, hx⟩, Boxed.other (Boxed.set _ r1) (by simp) _, Boxed.set _ (Boxed.other r2 (by simp) _)⟩, (hB.setCell (p := ⟨w.heap.size, 0, none⟩) (Nat.le_refl _) _).setCell (p := ⟨w.heap.size + 1, 0, none⟩) (by simp) _⟩
    · have hxb : decide (x.2 < 0) = false := decide_eq_false hx
      have k1 : pre.length + 1 ≤ maxLen := by unfold maxLen; omega
      have k2 : (pre.length + 1) * 8 ≤ 140737488355328 := by omega
      have k3 : ∀ o, w.heap.size + 5 ≤ (W.alloc o).heap.size := fun o => by rw [World.size_alloc]; omega
      gi_wp2_with (gi_at_builtin; refine wpListIn_append_own _ rfl _ _ 32 rfl (w.heap.size + 5) 3 i0 (.int .i64 0) 1 8 Try.underlying32 hi hz0 hz1 hz2 rfl (by decide) _ _ _ rfl (hrow.alloc _) ⟨W.heap.size, 0, none⟩ 1 1 [.int .i64 x.2] rfl rfl (cell_one_new _ _ _) (by simp [Value.oneCell']) k1 k2 (k3 _) ?_; intro v' w1 hown' hgrow _; obtain ⟨g', cap', rfl⟩ := ownsRow_succ hown'; obtain ⟨hv1, hv2, hr2, hk2, hb2, hbl⟩ := appended2 (n₀ := w.heap.size) hv (by decide) hrow (by omega) (by omega) (by omega) hown' hgrow; have hc1 := hv1.cell; have hf1 := hv1.frozen)
      exact ⟨hk2, kp2_blocks (hbl _ (by omega) (by omega)) (hbl _ (by omega) (by omega)), ⟨⟨_, hv2, by rw [ptsVals_snoc, List.length_append]; exact hr2, hHp.out.snoc (by omega)⟩, (hbl _ (by omega) (by omega)).trans r1, (hbl _ (by omega) (by omega)).trans r2, (hbl _ (by omega) (by omega)).trans r3⟩, hB.trans hb2⟩
  case done =>
    rintro D ys W hD rfl ⟨⟨⟨v, hv, hrow, hp⟩, r1, r2, r3⟩, hB⟩ hK
    have hlt3 := r3.lt
    have hHp := Aside0.mk hp
    clear hp
    obtain ⟨A, l0, c0, rfl⟩ : ∃ A l0 c0, v = .slice A l0 c0 := by
      rcases hrow.2 with ⟨hv, _⟩ | ⟨g, cap, cur, hv, _⟩
      · exact ⟨_, _, _, hv⟩
      · exact ⟨_, _, _, hv⟩
    have hc := hv.cell
    have hr1 := r1.cell
    have hr2 := r2.cell
    have hf1 := r1.frozen
    have hf2 := r2.frozen
    gi_wp2
    have hne : ∀ b, b < w.heap.size + 5 → (Value.slice A l0 c0).ownBlock ≠ some b := fun b hb e => by have := (hrow.lt b e).1; omega
    have o1 := hrow.kept (grownBy_setCell' W w.heap.size (.slice A l0 c0)) (.inr (hne _ (by omega)))
    have o2 := o1.kept (grownBy_setCell' _ (w.heap.size + 1) (.int .i64 0)) (.inr (hne _ (by omega)))
    have hK' := ((KeepsOthers.setCell W ⟨w.heap.size, 0, none⟩ (.slice A l0 c0)).trans (KeepsOthers.setCell _ ⟨w.heap.size + 1, 0, none⟩ (.int .i64 0))).same D _ hK rfl
    have o3 := ownsRow_putObj o2 (.deferred none) hK' rfl
    have b1 := Boxed.other (Boxed.set (.slice A l0 c0) r1) (B' := w.heap.size + 1) (by omega) (.int .i64 0)
    have b2 := Boxed.set (.int .i64 0) (Boxed.other r2 (B' := w.heap.size) (by omega) (.slice A l0 c0))
    have g1 := boxed_own _ _ (fun _ : Unit => .slice A l0 c0) () _ _ _ b1 (grownBy_putObj' _ D (.deferred none)) (fun r e => by cases e; exact ⟨_, hK', rfl⟩)
    have g2 := boxed_own _ _ (fun _ : Unit => .int .i64 0) () _ _ _ b2 (grownBy_putObj' _ D (.deferred none)) (fun r e => by cases e; exact ⟨_, hK', rfl⟩)
    have g4 := g1.cell
    have g5 := g2.cell
    refine ⟨by simp, .inl ⟨_, _, rfl, run_takeDeferred hK', ?_⟩⟩
    refine ⟨.tuple #[.slice A l0 c0, .int .i64 0], by simp [results, Try.f16, go_sem, g4, g5], .slice A l0 c0, by rw [ptsOf_none hHp.out], ?_, ((hB.setCell (p := ⟨w.heap.size, 0, none⟩) (Nat.le_refl _) _).setCell (p := ⟨w.heap.size + 1, 0, none⟩) (by simp) _).trans (belowK_b (w := w) (Nat.le_refl _) _ D _ _ (by omega) hK' rfl rfl)⟩
    rw [ptsOf_none hHp.out]
    refine Kd.R_of_own (own_weaken (base := w.heap.size + 5) ?_ (by omega)) (fun _ _ => trivial)
    have he : encs (Value.int .i64) (ys.map (·.2)) = ptsVals ys := by simp [encs, ptsVals]
    rw [he, List.length_map]
    exact o3
  case stop =>
    rintro D c pre W hD hpre ⟨⟨rfl, ⟨q, x, rfl, hx⟩, r1, r2⟩, hB⟩ hK
    gi_wp2
    have g1 := boxed_own _ _ (fun _ : Unit => .slice none 0 0) () W _ _ r1 (grownBy_putObj' _ D (.deferred none)) (fun r e => by cases e; exact ⟨_, hK, rfl⟩)
    have g2 := boxed_own _ _ (fun _ : Unit => .int .i64 12) () W _ _ r2 (grownBy_putObj' _ D (.deferred none)) (fun r e => by cases e; exact ⟨_, hK, rfl⟩)
    have g4 := g1.cell
    have g5 := g2.cell
    refine ⟨by simp, .inl ⟨_, _, rfl, run_takeDeferred hK, ?_⟩⟩
    refine ⟨.tuple #[.slice none 0 0, .int .i64 12], by simp [results, Try.f16, go_sem, g4, g5], .slice none 0 0, by rw [ptsOf_some hx hpre], by rw [ptsOf_some hx hpre]; exact Kd.R_nil _ _ _ _ _, hB.trans (belowK_b (w := w) (Nat.le_refl _) W D _ _ (by omega) hK rfl rfl)⟩

set_option maxHeartbeats 1000000 in
set_option maxRecDepth 100000 in
theorem points_asked (n : Int) (s : ByteArray) (e : Int) (he : e ≠ 0) (ha : codeset_asked.f n s = some e) (w : World) :
    Calls Try.prog 16 #[.int .i64 n, .string s] w fun e' w' => e' = .returned (.tuple #[.slice none 0 0, .int .i64 e]) ∧ Below w.heap.size w w' := by
  have HA := Aside0.mk ha
  have hn : (e != 0) = true := by simpa using he
  clear ha he
  go_enter Try.func16, Try.ntmps16
  go_wp2_with (go_at_call 39; refine (codeset_asked.calls n s e _ HA.out).mono ?_; rintro e' w' ⟨rfl, ⟨nd, rfl⟩⟩)
  exact bodyPost_ret (v := .tuple #[.slice none 0 0, .int .i64 e]) (by simp [results, Try.f16, go_sem]) rfl ⟨rfl, by repeat (first | exact Below.refl _ _ | apply below_alloc | apply pw_below_drewN | apply below_drew1 | refine below_set ?_ (Nat.le_refl _) | refine below_set ?_ (Nat.le_succ _))⟩

def codeset_Points.f (n : Int) (s : ByteArray) : Option (List Int × Int) := (codeset_asked.f n s).bind fun e => if e = 0 then (seqF (nxF 16 n) s (s.size + 1) 0).bind fun xs => if xs.length * 8 ≤ 140737488351232 then some (ptsOf xs) else none else some ([], e)

theorem codeset_Points.calls (a0 : Int) (a1 : ByteArray) (r1 : List Int) (r2 : Int) (w : World) (h : codeset_Points.f a0 a1 = some (r1, r2)) :
    Calls Try.prog 16 #[.int .i64 a0, .string a1] w fun e w' => ∃ v0_ : Value, e = .returned (.tuple #[v0_, .int .i64 r2]) ∧ Kd.R (Kd.int .i64) 3 w' w.heap.size (fun _ => True) v0_ r1 ∧ Below w.heap.size w w' := by
  unfold codeset_Points.f at h
  obtain ⟨e, ha, h⟩ := Option.bind_eq_some_iff.mp h
  by_cases he : e = 0
  · subst he
    rw [if_pos rfl] at h
    obtain ⟨xs, hx, h⟩ := Option.bind_eq_some_iff.mp h
    obtain ⟨h1, h5, hs⟩ := asked_zero ha
    by_cases hl : xs.length * 8 ≤ 140737488351232
    · rw [if_pos hl] at h
      have := points_go 16 a0 h1 h5 a1 _ xs (by omega) ha hx hl w
      rw [Option.some.inj h] at this
      exact this
    · rw [if_neg hl] at h
      exact absurd h (by simp)
  · rw [if_neg he] at h
    obtain ⟨rfl, rfl⟩ := Prod.mk.inj (Option.some.inj h)
    refine (points_asked a0 a1 e he ha w).mono ?_
    rintro e' w' ⟨rfl, hb⟩
    exact ⟨_, rfl, Kd.R_nil _ _ _ _ _, hb⟩

end Go.Proofs.Yteioboechlnogaa.P
