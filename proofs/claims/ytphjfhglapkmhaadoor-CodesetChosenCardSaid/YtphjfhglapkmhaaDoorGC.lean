/- It is proved of codeset.Convert what it answers at each two code sets and each text. No condition beyond the lemmas' own. -/
import Derived.Laws.EntriesVeiled
import Derived.Test.YtphjfhglapkmhaaDoorGW
import Derived.Test.YtphjfhglapkmhaaDoorGJ
import Derived.Test.YtphjfhglapkmhaaDoorB
import Derived.Test.YtphjfhglapkmhaaDoorShelf
namespace Go.Proofs.YtphjfhglapkmhaaDoor.P
open Go.Shelf Go.RowKit Go.Proofs.YtphjfhglapkmhaaDoorW.PrintWords Go.Proofs.YtphjfhglapkmhaaDoorW.PrintLast Go.Proofs.YtphjfhglapkmhaaDoorW.PrintMore
attribute [local go_sem] Oper.semAt_some

theorem builder_below {B b : Nat} {bs : List Value} {w w' : World} (h : Lib.IsBuilderF 61 5 B b bs w) (hb : Below w.heap.size w w') : Lib.IsBuilderF 61 5 B b bs w' := by
  rcases h with h | h
  · have hl := h.lt
    obtain ⟨hB, v, hbk, hown, hne⟩ := h
    exact .inl ⟨hB, v, (hb.block b hl).trans hbk, hown.kept (grown_of_below hb none) (Classical.em _), hne⟩
  · have hl := h.lt
    obtain ⟨hB, v, hbk, hown, hne⟩ := h
    exact .inr ⟨hB, v, (hb.block b hl).trans hbk, hown.kept (grown_of_below hb none) (Classical.em _), hne⟩
theorem is_yes {n : Int} (h1 : 1 ≤ n) (h5 : n ≤ 5) : codeset_is.f n = some true := by simp [codeset_is.f, h1, h5]
theorem boxed_at {W1 W0 : World} {B : Nat} {t : TypeId} {v : Value} (hB : Below W1.heap.size W1 W0) (h : Boxed W1 B t v) : Boxed W0 B t v := (hB.block B h.lt).trans h
theorem boxed_new_at {W1 W0 : World} {B : Nat} {t : TypeId} {v : Value} (hB : Below (W1.alloc (.cells #[v] t)).heap.size (W1.alloc (.cells #[v] t)) W0) (hs : W1.heap.size = B) : Boxed W0 B t v := by
  subst hs
  exact boxed_at hB (Boxed.new W1 t v)
theorem builder_own {B b : Nat} {bs : List Value} {X Y : World} {row : Option Nat} (h : Lib.IsBuilderF 61 5 B b bs X) (hg : X.grownBy Y row) (hr : ∀ r, row = some r → ∃ o : Obj, X.heap[r]? = some o ∧ o.isCells = false) : Lib.IsBuilderF 61 5 B b bs Y := by
  have key : ∀ p, Lib.BuilderAtF 61 5 B b p bs X → Lib.BuilderAtF 61 5 B b p bs Y := by
    intro p h
    have hl := h.lt
    obtain ⟨hB, v, hbk, hown, hne⟩ := h
    have hrow : ∀ k c t fz, X.heap[k]? = some (.cells c t fz) → some k ≠ row := by
      intro k c t fz hk e
      obtain ⟨o, ho, hc⟩ := hr k e.symm
      rw [hk] at ho
      cases ho
      cases hc
    refine ⟨hB, v, (hg.block b hl (hrow b _ _ _ hbk)).trans hbk, hown.kept hg ?_, hne⟩
    cases ho : v.ownBlock with
    | none => exact .inl rfl
    | some g =>
      obtain ⟨c, fz, hc⟩ := Lib.ownsRowF_kind hown g ho
      exact .inr (hrow g _ _ _ hc)
  exact h.imp (key _) (key _)
theorem boxed_kept {b : Nat} {W W' : World} {B : Nat} {t : TypeId} {v : Value} (h : Lib.OthersKept 5 (some b) W W') (hb : Boxed W B t v) (hne : B ≠ b) (ht : t ≠ 5) : Boxed W' B t v :=
  h B _ hb (fun e => hne (Option.some.inj e)) (fun c fz e => by cases e; exact ht rfl)
theorem others_of_kept {b : Nat} {W W' : World} {T : TypeId} {cs : Array Value} {fr : Nat × Nat} (h : Lib.OthersKept 5 (some b) W W') (hsz : W.heap.size ≤ W'.heap.size) (hb : W.heap[b]? = some (.cells cs T fr)) : KeepsOthers W W' :=
  ⟨hsz, fun k o hk hc => h k o hk (fun e => by cases e; rw [hb] at hk; cases hk; cases hc) (fun c fz e => by rw [e] at hc; cases hc)⟩
theorem others_of_below {W W' : World} (h : Below W.heap.size W W') : KeepsOthers W W' := ⟨h.size, fun k _ hk _ => (h.block k (Array.getElem?_eq_some_iff.1 hk).1).trans hk⟩
theorem builder_block {B b : Nat} {bs : List Value} {W : World} (h : Lib.IsBuilderF 61 5 B b bs W) : ∃ cs, W.heap[b]? = some (.cells cs 61 (0, 0)) := by
  rcases h with h | h
  · obtain ⟨_, v, hbk, _⟩ := h; exact ⟨_, hbk⟩
  · obtain ⟨_, v, hbk, _⟩ := h; exact ⟨_, hbk⟩
theorem kp2_boxed {Bn Bs t1 t2 : Nat} {v1 v2 : Value} {W W' : World} (h1 : Boxed W Bn t1 v1) (h2 : Boxed W Bs t2 v2) (g1 : Boxed W' Bn t1 v1) (g2 : Boxed W' Bs t2 v2) : Kp2 Bn Bs W W' := by
  rintro b v (rfl | rfl) hv
  · rw [h1.cell] at hv; cases hv; exact g1.cell
  · rw [h2.cell] at hv; cases hv; exact g2.cell

/-- The boxes that Convert has laid. -/
def CBox (S : Nat) (a b : Int) (s : ByteArray) (W : World) : Prop := Boxed W S 3 (.int .i64 b) ∧ Boxed W (S + 1) 9 (.string ⟨#[]⟩) ∧ Boxed W (S + 1 + 1) 3 (.int .i64 0) ∧ Boxed W (S + 1 + 1 + 1) 27 (.int .i64 0) ∧ Boxed W (S + 1 + 1 + 1 + 1) 57 (.func (.func 34) #[] #[.pointer (some ⟨S, 0, none⟩)]) ∧ Boxed W (S + 1 + 1 + 1 + 1 + 1 + 1) 3 (.int .i64 a) ∧ Boxed W (S + 1 + 1 + 1 + 1 + 1 + 1 + 1) 9 (.string s)
theorem CBox.kept {S : Nat} {a b : Int} {s : ByteArray} {W W' : World} (h : CBox S a b s W) (hk : ∀ B t v, Boxed W B t v → B ≠ S + 1 + 1 + 1 + 1 + 1 → t ≠ 5 → Boxed W' B t v) : CBox S a b s W' := by
  obtain ⟨x1, x2, x3, x4, x5, x6, x7⟩ := h
  exact ⟨hk _ _ _ x1 (by omega) (by decide), hk _ _ _ x2 (by omega) (by decide), hk _ _ _ x3 (by omega) (by decide), hk _ _ _ x4 (by omega) (by decide), hk _ _ _ x5 (by omega) (by decide), hk _ _ _ x6 (by omega) (by decide), hk _ _ _ x7 (by omega) (by decide)⟩
theorem CBox.grown {S : Nat} {a b : Int} {s : ByteArray} {X Y : World} {row : Option Nat} (h : CBox S a b s X) (hg : X.grownBy Y row) (hr : ∀ r, row = some r → ∃ o : Obj, X.heap[r]? = some o ∧ o.isCells = false) : CBox S a b s Y :=
  h.kept (fun B t v hb _ _ => boxed_own B t (fun _ : Unit => v) () X Y row hb hg hr)

set_option maxRecDepth 100000 in
set_option maxHeartbeats 2000000 in
theorem conv_go (kk : Nat) (a b : Int) (h1 : 1 ≤ a) (h5 : a ≤ 5) (k1 : 1 ≤ b) (k5 : b ≤ 5) (s : ByteArray) (fuel : Nat) (xs : List (Int × Int)) (hs : s.size ≤ 65536)
    (hx : seqF (nxF kk a) s fuel 0 = some xs) (hlen : xs.length ≤ 17592186044415) (w : World) :
    Calls Tryd.prog 21 #[.int .i64 a, .int .i64 b, .string s] w fun e w' => e = .returned (.tuple #[.string (convOf (wr b) xs []).1, .int .i64 (convOf (wr b) xs []).2.1, .int .i64 (convOf (wr b) xs []).2.2]) ∧ Below w.heap.size w w' := by
  have HA := Aside0.mk (is_yes h1 h5)
  have HB := Aside0.mk (is_yes k1 k5)
  have HX := Aside0.mk hx
  have d0 : decide ((65536 : Int) < (s.size : Int)) = false := decide_eq_false (by omega)
  have d1 : decide (65536 < s.size) = false := decide_eq_false (by omega)
  clear hx
  refine (callsIn_wide (n := 3)).1 ?_
  refine callsIn_of_wp_marks Tryd.func21 rfl trivial ?_ rfl
  simp only [Tryd.ntmps21, List.size_toArray, List.length_cons, List.length_nil, Nat.reduceAdd, Nat.reduceSub, Array.replicate_succ, Array.replicate_zero, List.push_toArray, List.append_toArray, List.nil_append, List.cons_append]
  gi_wp2_with (first | (refine ⟨trivial, ?_⟩; gi_at_call 30; refine (callsIn_wide.2 (codeset_is.calls a true _ HA.out)).mono ?_; rintro e w' ⟨rfl, ⟨nd, rfl⟩⟩) | (refine ⟨trivial, ?_⟩; gi_at_call 30; refine (callsIn_wide.2 (codeset_is.calls b true _ HB.out)).mono ?_; rintro e w' ⟨rfl, ⟨nd2, rfl⟩⟩) | (refine ⟨trivial, ?_⟩; gi_at_call 36; refine (callsIn_wide.2 (points_calls a s _)).mono ?_; rintro e w' ⟨rfl, rfl⟩))
  generalize hW0 : ((((((((w.alloc (Obj.cells #[Value.int IntKind.i64 b] 3)).alloc (Obj.cells #[Value.string { data := #[] }] 9)).alloc (Obj.cells #[Value.int IntKind.i64 0] 3)).alloc (Obj.cells #[Value.int IntKind.i64 0] 27)).drewN (nd + nd2)).alloc (Obj.cells #[Value.func (Fn.func 34) #[] #[Value.pointer (some { block := w.heap.size, off := 0 })]] 57)).alloc (Obj.cells #[Value.pointer none, Value.slice none 0 0] 61)).alloc (Obj.cells #[Value.int IntKind.i64 a] 3)).alloc (Obj.cells #[Value.string s] 9) = W0
  have hsz : W0.heap.size = w.heap.size + 8 := by rw [← hW0]; simp
  have hB0 : Below w.heap.size w W0 := by rw [← hW0]; exact below_alloc (below_alloc (below_alloc (below_alloc (pw_below_drewN (below_alloc (below_alloc (below_alloc (below_alloc (Below.refl _ _) _) _) _) _) _) _) _) _) _
  have x0 : Boxed W0 (w.heap.size) _ _ := boxed_new_at (by rw [← hW0]; exact below_alloc (below_alloc (below_alloc (below_alloc (pw_below_drewN (below_alloc (below_alloc (below_alloc (Below.refl _ _) _) _) _) _) _) _) _) _) (by simp)
  have x1 : Boxed W0 (w.heap.size + 1) _ _ := boxed_new_at (by rw [← hW0]; exact below_alloc (below_alloc (below_alloc (below_alloc (pw_below_drewN (below_alloc (below_alloc (Below.refl _ _) _) _) _) _) _) _) _) (by simp)
  have x2 : Boxed W0 (w.heap.size + 1 + 1) _ _ := boxed_new_at (by rw [← hW0]; exact below_alloc (below_alloc (below_alloc (below_alloc (pw_below_drewN (below_alloc (Below.refl _ _) _) _) _) _) _) _) (by simp)
  have x3 : Boxed W0 (w.heap.size + 1 + 1 + 1) _ _ := boxed_new_at (by rw [← hW0]; exact below_alloc (below_alloc (below_alloc (below_alloc (pw_below_drewN (Below.refl _ _) _) _) _) _) _) (by simp)
  have x4 : Boxed W0 (w.heap.size + 1 + 1 + 1 + 1) _ _ := boxed_new_at (by rw [← hW0]; exact below_alloc (below_alloc (below_alloc (Below.refl _ _) _) _) _) (by simp)
  have x6 : Boxed W0 (w.heap.size + 1 + 1 + 1 + 1 + 1 + 1) _ _ := boxed_new_at (by rw [← hW0]; exact below_alloc (Below.refl _ _) _) (by simp)
  have x7 : Boxed W0 (w.heap.size + 1 + 1 + 1 + 1 + 1 + 1 + 1) _ _ := boxed_new_at (by rw [← hW0]; exact Below.refl _ _) (by simp)
  have xb : Lib.IsBuilderF 61 5 (w.heap.size + 1 + 1 + 1 + 1 + 1) (w.heap.size + 1 + 1 + 1 + 1 + 1) (Lib.byteCells []) W0 := by
    have h0 := Lib.IsBuilderF.of (Lib.fresh_isBuilder 61 5 ((((((w.alloc (Obj.cells #[Value.int IntKind.i64 b] 3)).alloc (Obj.cells #[Value.string { data := #[] }] 9)).alloc (Obj.cells #[Value.int IntKind.i64 0] 3)).alloc (Obj.cells #[Value.int IntKind.i64 0] 27)).drewN (nd + nd2)).alloc (Obj.cells #[Value.func (Fn.func 34) #[] #[Value.pointer (some { block := w.heap.size, off := 0 })]] 57)))
    rw [show ((((((w.alloc (Obj.cells #[Value.int IntKind.i64 b] 3)).alloc (Obj.cells #[Value.string { data := #[] }] 9)).alloc (Obj.cells #[Value.int IntKind.i64 0] 3)).alloc (Obj.cells #[Value.int IntKind.i64 0] 27)).drewN (nd + nd2)).alloc (Obj.cells #[Value.func (Fn.func 34) #[] #[Value.pointer (some { block := w.heap.size, off := 0 })]] 57)).heap.size = w.heap.size + 1 + 1 + 1 + 1 + 1 by simp] at h0
    exact builder_below h0 (by rw [← hW0]; exact below_alloc (below_alloc (Below.refl _ _) _) _)
  clear hW0
  refine wpIn_rangeFunc_ownF rfl (by omega) (gf := 44) (lb := #[.pointer (some ⟨w.heap.size + 1 + 1 + 1 + 1 + 1 + 1, 0, none⟩), .pointer (some ⟨w.heap.size + 1 + 1 + 1 + 1 + 1 + 1 + 1, 0, none⟩)]) rfl trivial (enters_of Tryd.func44 (by kernel_rfl) rfl)
    (points_stops _ kk a h1 h5 s _ _ fuel xs (by omega) (by omega) HX.out W0 x6.cell x7.cell) kp2_t (fun W l o o' _ h hc _ => kp2_b W l o o' h hc) (Below.refl _ _) (fun _ => rfl)
    (fun pre W => ((∃ acc, accOf (wr b) pre = some acc ∧ Lib.IsBuilderF 61 5 (w.heap.size + 1 + 1 + 1 + 1 + 1) (w.heap.size + 1 + 1 + 1 + 1 + 1) (Lib.byteCells acc) W) ∧ CBox w.heap.size a b s W) ∧ Below w.heap.size w W)
    (fun c pre W => (c = .ret ∧ (∃ (q : List (Int × Int)) (x : Int × Int) (acc : List UInt8), pre = q ++ [x] ∧ accOf (wr b) q = some acc ∧ (x.2 < 0 ∨ (wr b x.2).2 = false) ∧ Boxed W (w.heap.size + 1) 9 (.string ⟨#[]⟩) ∧ Boxed W (w.heap.size + 1 + 1) 3 (.int .i64 x.1) ∧ Boxed W (w.heap.size + 1 + 1 + 1) 27 (.int .i64 (if x.2 < 0 then 12 else 7)))) ∧ Below w.heap.size w W)
    (OwnFrom.and (Own.from (fun s A B row hs hg hr => by
      obtain ⟨⟨acc, h1, h2⟩, h3⟩ := hs
      exact ⟨⟨acc, h1, builder_own h2 hg hr⟩, h3.grown hg hr⟩) _) (ownFrom_below (Nat.le_refl _) (by omega)))
    (fun c => OwnFrom.and (Own.from (fun s A B row hs hg hr => by
      obtain ⟨h0, q, x, acc, h1, h2, h3, h4, h5, h6⟩ := hs
      exact ⟨h0, q, x, acc, h1, h2, h3, boxed_own _ _ (fun _ : Unit => _) () A B row h4 hg hr, boxed_own _ _ (fun _ : Unit => _) () A B row h5 hg hr, boxed_own _ _ (fun _ : Unit => _) () A B row h6 hg hr⟩) _) (ownFrom_below (Nat.le_refl _) (by omega)))
    ⟨⟨⟨[], rfl, xb⟩, x0, x1, x2, x3, x4, x6, x7⟩, hB0⟩
    (fun x => { tmps := #[.int .i64 a, .int .i64 b, .string s, undef, .pointer (some ⟨w.heap.size, 0, none⟩), undef, .pointer (some ⟨w.heap.size + 1, 0, none⟩), .pointer (some ⟨w.heap.size + 1 + 1, 0, none⟩), .pointer (some ⟨w.heap.size + 1 + 1 + 1, 0, none⟩), .pointer (some ⟨w.heap.size + 1 + 1 + 1 + 1, 0, none⟩), .pointer (some ⟨w.heap.size + 1 + 1 + 1 + 1 + 1, 0, none⟩), .int .i64 x.1, .int .i64 x.2, undef, undef, .int .i64 a, .bool true, .bool false, .bool false, .int .i64 b, .bool true, .bool false, .bool false, .string s, .int .i64 s.size, .bool false, .func (.func 34) #[] #[.pointer (some ⟨w.heap.size, 0, none⟩)], .int .i64 a, .string s, .func (.func 44) #[] #[.pointer (some ⟨w.heap.size + 1 + 1 + 1 + 1 + 1 + 1, 0, none⟩), .pointer (some ⟨w.heap.size + 1 + 1 + 1 + 1 + 1 + 1 + 1, 0, none⟩)], .int .i64 x.1, .int .i64 x.2, undef, undef, undef, undef, undef, undef, undef, undef, undef, undef, undef, undef, undef, undef, undef, undef, undef], defers := [] }) ?assign ?body ?done ?stop
  case assign =>
    intro l x W K hK
    gi_wp2
    exact hK
  case body =>
    rintro l pre x W ⟨⟨⟨acc, hacc, hbu⟩, hbx⟩, hB⟩ hlt
    have HACC := Aside0.mk hacc
    have HBU := Aside0.mk hbu
    have HBX := Aside0.mk hbx
    have HBB := Aside0.mk hB
    obtain ⟨z0, z1, z2, z3, z4, z6, z7⟩ := hbx
    have c1 := z1.cell
    have c2 := z2.cell
    have c3 := z3.cell
    have c4 := z4.cell
    have g1 := z1.frozen
    have g2 := z2.frozen
    have g3 := z3.frozen
    by_cases hx : x.2 < 0
    · have hxb : decide (x.2 < 0) = true := decide_eq_true hx
      clear hacc hbu hB
      gi_wp2
      exact ⟨((KeepsOthers.setCell _ _ _).trans (KeepsOthers.setCell _ _ _)).trans (KeepsOthers.setCell _ _ _), ⟨rfl, pre, x, acc, rfl, HACC.out, .inl hx, Boxed.other (Boxed.other (Boxed.set _ z1) (by omega) _) (by omega) _, Boxed.other (Boxed.set _ (Boxed.other z2 (by omega) _)) (by omega) _, by rw [if_pos hx]; exact Boxed.set _ (Boxed.other (Boxed.other z3 (by omega) _) (by omega) _)⟩, ((HBB.out.setCell (p := ⟨w.heap.size + 1, 0, none⟩) (by simp) _).setCell (p := ⟨w.heap.size + 1 + 1, 0, none⟩) (by simp; omega) _).setCell (p := ⟨w.heap.size + 1 + 1 + 1, 0, none⟩) (by simp; omega) _⟩
    · have hxb : decide (x.2 < 0) = false := decide_eq_false hx
      have hlt4 := z4.lt
      have hbl : acc.length ≤ 4 * pre.length := by simpa using acc_length (fun p => wr_size b p) pre [] acc HACC.out
      have hws : (wr b x.2).1.size ≤ 4 := wr_size b x.2
      have HW : Aside0 (wrF b x.2 = some ((wr b x.2).1, (wr b x.2).2)) := ⟨wrF_eq b x.2⟩
      clear hacc hbu hB
      by_cases hok : (wr b x.2).2 = true
      · rw [hok] at HW
        gi_wp2_with (first | (refine ⟨trivial, ?_⟩; gi_at_call 34; refine (CallsIn.inRound l (callsIn_wide.2 (conv1_calls b x.2 k1 k5 w.heap.size _ _ W HW z0.cell))).mono ?_; rintro e w1 ⟨rfl, hb1⟩) | (refine ⟨trivial, ?_⟩; gi_at_call 37; refine (CallsIn.inRound l (callsIn_wide.2 (B.writeString (w.heap.size + 1 + 1 + 1 + 1 + 1) (w.heap.size + 1 + 1 + 1 + 1 + 1) (Lib.byteCells acc) _ _ (builder_below HBU.out hb1) (by rw [Lib.byteCells_length]; omega) (by have := hb1.size; omega)))).mono ?_; rintro e w2 ⟨rfl, hb2, hb3, hb4⟩))
        have hbk := builder_block (builder_below HBU.out hb1)
        obtain ⟨cs, hbk⟩ := hbk
        have hcb : CBox w.heap.size a b s w2 := HBX.out.kept (fun B t v hb hne ht => boxed_kept hb4 (boxed_at hb1 hb) hne ht)
        have hsw := HBB.out.size
        refine ⟨(others_of_below hb1).trans (others_of_kept hb4 hb3.size hbk), kp2_boxed z6 z7 hcb.2.2.2.2.2.1 hcb.2.2.2.2.2.2, ⟨⟨acc ++ (wr b x.2).1.data.toList, ?_, ?_⟩, hcb⟩, HBB.out.trans ((hb1.mono hsw).trans (hb3.mono (by omega)))⟩
        · rw [accOf_snoc, HACC.out]
          simp [accStep, hx, hok]
        · rw [Lib.byteCells_append]
          exact .inr hb2
      · have hok' : (wr b x.2).2 = false := by simpa using hok
        rw [hok'] at HW
        gi_wp2_with (first | (refine ⟨trivial, ?_⟩; gi_at_call 34; refine (CallsIn.inRound l (callsIn_wide.2 (conv1_calls b x.2 k1 k5 w.heap.size _ _ W HW z0.cell))).mono ?_; rintro e w1 ⟨rfl, hb1⟩; have y1 := boxed_at hb1 z1; have y2 := boxed_at hb1 z2; have y3 := boxed_at hb1 z3; have yc1 := y1.cell; have yc2 := y2.cell; have yc3 := y3.cell; have yg1 := y1.frozen; have yg2 := y2.frozen; have yg3 := y3.frozen))
        have hsw := HBB.out.size
        exact ⟨(((others_of_below hb1).trans (KeepsOthers.setCell _ _ _)).trans (KeepsOthers.setCell _ _ _)).trans (KeepsOthers.setCell _ _ _), ⟨rfl, pre, x, acc, rfl, HACC.out, .inr hok', Boxed.other (Boxed.other (Boxed.set _ y1) (by omega) _) (by omega) _, Boxed.other (Boxed.set _ (Boxed.other y2 (by omega) _)) (by omega) _, by rw [if_neg (show ¬x.2 < 0 by omega)]; exact Boxed.set _ (Boxed.other (Boxed.other y3 (by omega) _) (by omega) _)⟩, (((HBB.out.trans (hb1.mono hsw)).setCell (p := ⟨w.heap.size + 1, 0, none⟩) (by simp) _).setCell (p := ⟨w.heap.size + 1 + 1, 0, none⟩) (by simp; omega) _).setCell (p := ⟨w.heap.size + 1 + 1 + 1, 0, none⟩) (by simp; omega) _⟩
  case done =>
    rintro D ys W hD rfl ⟨⟨⟨acc, hacc, hbu⟩, hbx⟩, hB⟩ hK
    have HACC := Aside0.mk hacc
    have HBU := Aside0.mk hbu
    have HBB := Aside0.mk hB
    obtain ⟨z0, z1, z2, z3, z4, z6, z7⟩ := hbx
    have hlt7 := z7.lt
    have c1 := z1.cell
    have c2 := z2.cell
    have c3 := z3.cell
    have g1 := z1.frozen
    have g2 := z2.frozen
    have g3 := z3.frozen
    clear hacc hbu hB
    by_cases hbig : (acc.length : Int) > 65536
    · have hb0 : decide ((65536 : Int) < (acc.length : Int)) = true := decide_eq_true hbig
      have hb1 : decide (65536 < acc.length) = true := decide_eq_true (by omega)
      gi_wp2_with (first | (refine ⟨trivial, ?_⟩; gi_at_call 38; refine (callsIn_wide.2 (Tryd.Builder_Len_f (w.heap.size + 1 + 1 + 1 + 1 + 1) (w.heap.size + 1 + 1 + 1 + 1 + 1) (Lib.byteCells acc) _ HBU.out)).mono ?_; rintro e w1 ⟨rfl, rfl⟩; (try simp only [Lib.byteCells_length])))
      have b1 := Boxed.other (Boxed.other (Boxed.set (.string ⟨#[]⟩) z1) (B' := w.heap.size + 1 + 1) (by omega) (.int .i64 0)) (B' := w.heap.size + 1 + 1 + 1) (by omega) (.int .i64 4)
      have b2 := Boxed.other (Boxed.set (.int .i64 0) (Boxed.other z2 (B' := w.heap.size + 1) (by omega) (.string ⟨#[]⟩))) (B' := w.heap.size + 1 + 1 + 1) (by omega) (.int .i64 4)
      have b3 := Boxed.set (.int .i64 4) (Boxed.other (Boxed.other z3 (B' := w.heap.size + 1) (by omega) (.string ⟨#[]⟩)) (B' := w.heap.size + 1 + 1) (by omega) (.int .i64 0))
      have hK' := (((KeepsOthers.setCell _ ⟨w.heap.size + 1, 0, none⟩ (.string ⟨#[]⟩)).trans (KeepsOthers.setCell _ ⟨w.heap.size + 1 + 1, 0, none⟩ (.int .i64 0))).trans (KeepsOthers.setCell _ ⟨w.heap.size + 1 + 1 + 1, 0, none⟩ (.int .i64 4))).same D _ hK rfl
      have q1 := (boxed_own _ _ (fun _ : Unit => (.string ⟨#[]⟩)) () _ _ _ b1 (grownBy_putObj' _ D (.deferred none)) (fun r e => by cases e; exact ⟨_, hK', rfl⟩)).cell
      have q2 := (boxed_own _ _ (fun _ : Unit => .int .i64 0) () _ _ _ b2 (grownBy_putObj' _ D (.deferred none)) (fun r e => by cases e; exact ⟨_, hK', rfl⟩)).cell
      have q3 := (boxed_own _ _ (fun _ : Unit => .int .i64 4) () _ _ _ b3 (grownBy_putObj' _ D (.deferred none)) (fun r e => by cases e; exact ⟨_, hK', rfl⟩)).cell
      refine ⟨by simp, .inl ⟨_, _, rfl, run_takeDeferred hK', ?_⟩⟩
      refine ⟨.tuple #[(.string ⟨#[]⟩), .int .i64 0, .int .i64 4], by simp [results, Tryd.f21, go_sem, q1, q2, q3], by rw [conv_done HACC.out, if_pos hbig], (((HBB.out.setCell (p := ⟨w.heap.size + 1, 0, none⟩) (by simp) _).setCell (p := ⟨w.heap.size + 1 + 1, 0, none⟩) (by simp; omega) _).setCell (p := ⟨w.heap.size + 1 + 1 + 1, 0, none⟩) (by simp; omega) _).trans (belowK_b (w := w) (Nat.le_refl _) _ D _ _ (by omega) hK' rfl rfl)⟩
    · have hb0 : decide ((65536 : Int) < (acc.length : Int)) = false := decide_eq_false hbig
      have hb1 : decide (65536 < acc.length) = false := decide_eq_false (by omega)
      gi_wp2_with (first | (refine ⟨trivial, ?_⟩; gi_at_call 38; refine (callsIn_wide.2 (Tryd.Builder_Len_f (w.heap.size + 1 + 1 + 1 + 1 + 1) (w.heap.size + 1 + 1 + 1 + 1 + 1) (Lib.byteCells acc) _ HBU.out)).mono ?_; rintro e w1 ⟨rfl, rfl⟩; (try simp only [Lib.byteCells_length])) | (refine ⟨trivial, ?_⟩; gi_at_call 39; refine (callsIn_wide.2 (Tryd.Builder_String_any_k (w.heap.size + 1 + 1 + 1 + 1 + 1) (w.heap.size + 1 + 1 + 1 + 1 + 1) acc _ HBU.out (by omega))).mono ?_; rintro e w2 ⟨rfl, _, hb2, hb3⟩; have z1 := boxed_kept hb3 z1 (by omega) (by decide); have z2 := boxed_kept hb3 z2 (by omega) (by decide); have z3 := boxed_kept hb3 z3 (by omega) (by decide); have yc1 := z1.cell; have yc2 := z2.cell; have yc3 := z3.cell; have yg1 := z1.frozen; have yg2 := z2.frozen; have yg3 := z3.frozen))
      obtain ⟨cs, hbk⟩ := builder_block HBU.out
      have hK := (others_of_kept hb3 hb2.size hbk).same D _ hK rfl
      have b1 := Boxed.other (Boxed.other (Boxed.set (.string ⟨acc.toArray⟩) z1) (B' := w.heap.size + 1 + 1) (by omega) (.int .i64 0)) (B' := w.heap.size + 1 + 1 + 1) (by omega) (.int .i64 0)
      have b2 := Boxed.other (Boxed.set (.int .i64 0) (Boxed.other z2 (B' := w.heap.size + 1) (by omega) (.string ⟨acc.toArray⟩))) (B' := w.heap.size + 1 + 1 + 1) (by omega) (.int .i64 0)
      have b3 := Boxed.set (.int .i64 0) (Boxed.other (Boxed.other z3 (B' := w.heap.size + 1) (by omega) (.string ⟨acc.toArray⟩)) (B' := w.heap.size + 1 + 1) (by omega) (.int .i64 0))
      have hK' := (((KeepsOthers.setCell w2 ⟨w.heap.size + 1, 0, none⟩ (.string ⟨acc.toArray⟩)).trans (KeepsOthers.setCell _ ⟨w.heap.size + 1 + 1, 0, none⟩ (.int .i64 0))).trans (KeepsOthers.setCell _ ⟨w.heap.size + 1 + 1 + 1, 0, none⟩ (.int .i64 0))).same D _ hK rfl
      have q1 := (boxed_own _ _ (fun _ : Unit => (.string ⟨acc.toArray⟩)) () _ _ _ b1 (grownBy_putObj' _ D (.deferred none)) (fun r e => by cases e; exact ⟨_, hK', rfl⟩)).cell
      have q2 := (boxed_own _ _ (fun _ : Unit => .int .i64 0) () _ _ _ b2 (grownBy_putObj' _ D (.deferred none)) (fun r e => by cases e; exact ⟨_, hK', rfl⟩)).cell
      have q3 := (boxed_own _ _ (fun _ : Unit => .int .i64 0) () _ _ _ b3 (grownBy_putObj' _ D (.deferred none)) (fun r e => by cases e; exact ⟨_, hK', rfl⟩)).cell
      refine ⟨by simp, .inl ⟨_, _, rfl, run_takeDeferred hK', ?_⟩⟩
      refine ⟨.tuple #[(.string ⟨acc.toArray⟩), .int .i64 0, .int .i64 0], by simp [results, Tryd.f21, go_sem, q1, q2, q3], by rw [conv_done HACC.out, if_neg (show ¬((acc.length : Int) > 65536) by omega)], ((((HBB.out.trans (hb2.mono (by omega))).setCell (p := ⟨w.heap.size + 1, 0, none⟩) (by simp) _).setCell (p := ⟨w.heap.size + 1 + 1, 0, none⟩) (by simp; omega) _).setCell (p := ⟨w.heap.size + 1 + 1 + 1, 0, none⟩) (by simp; omega) _).trans (belowK_b (w := w) (Nat.le_refl _) _ D _ _ (by omega) hK' rfl rfl)⟩
  case stop =>
    rintro D c pre W hD hpre ⟨⟨rfl, q, x, acc, rfl, hacc, hx, r1, r2, r3⟩, hB⟩ hK
    have hlt3 := r3.lt
    gi_wp2
    have g1 := boxed_own _ _ (fun _ : Unit => _) () W _ _ r1 (grownBy_putObj' _ D (.deferred none)) (fun r e => by cases e; exact ⟨_, hK, rfl⟩)
    have g2 := boxed_own _ _ (fun _ : Unit => _) () W _ _ r2 (grownBy_putObj' _ D (.deferred none)) (fun r e => by cases e; exact ⟨_, hK, rfl⟩)
    have g3 := boxed_own _ _ (fun _ : Unit => _) () W _ _ r3 (grownBy_putObj' _ D (.deferred none)) (fun r e => by cases e; exact ⟨_, hK, rfl⟩)
    have g4 := g1.cell
    have g5 := g2.cell
    have g6 := g3.cell
    refine ⟨by simp, .inl ⟨_, _, rfl, run_takeDeferred hK, ?_⟩⟩
    refine ⟨.tuple #[.string ⟨#[]⟩, .int .i64 x.1, .int .i64 (if x.2 < 0 then 12 else 7)], by simp [results, Tryd.f21, go_sem, g4, g5, g6], by rw [conv_stop hacc hpre hx], hB.trans (belowK_b (w := w) (Nat.le_refl _) W D _ _ (by omega) hK rfl rfl)⟩

set_option maxHeartbeats 1000000 in
set_option maxRecDepth 100000 in
theorem conv_not1 (a b : Int) (ha : codeset_is.f a = some false) (s : ByteArray) (w : World) :
    Calls Tryd.prog 21 #[.int .i64 a, .int .i64 b, .string s] w fun e' w' => e' = .returned (.tuple #[.string ⟨#[]⟩, .int .i64 0, .int .i64 1]) ∧ Below w.heap.size w w' := by
  have HA := Aside0.mk ha
  clear ha
  go_enter Tryd.func21, Tryd.ntmps21
  go_wp2_with (go_at_call 30; refine (codeset_is.calls a false _ HA.out).mono ?_; rintro e' w' ⟨rfl, ⟨nd, rfl⟩⟩)
  exact bodyPost_ret (v := .tuple #[.string ⟨#[]⟩, .int .i64 0, .int .i64 1]) (by simp [results, Tryd.f21, go_sem]) rfl ⟨rfl, by repeat (first | exact Below.refl _ _ | apply below_alloc | apply pw_below_drewN | apply below_drew1 | refine below_set ?_ (Nat.le_refl _) | refine below_set ?_ (Nat.le_succ _) | refine below_set ?_ (show w.heap.size ≤ w.heap.size + 1 + 1 by omega) | refine below_set ?_ (show w.heap.size ≤ w.heap.size + 1 + 1 + 1 by omega))⟩
set_option maxHeartbeats 1000000 in
set_option maxRecDepth 100000 in
theorem conv_not2 (a b : Int) (ha : codeset_is.f a = some true) (hb : codeset_is.f b = some false) (s : ByteArray) (w : World) :
    Calls Tryd.prog 21 #[.int .i64 a, .int .i64 b, .string s] w fun e' w' => e' = .returned (.tuple #[.string ⟨#[]⟩, .int .i64 0, .int .i64 1]) ∧ Below w.heap.size w w' := by
  have HA := Aside0.mk ha
  have HB := Aside0.mk hb
  clear ha hb
  go_enter Tryd.func21, Tryd.ntmps21
  go_wp2_with (first | (go_at_call 30; refine (codeset_is.calls a true _ HA.out).mono ?_; rintro e' w' ⟨rfl, ⟨nd, rfl⟩⟩) | (go_at_call 30; refine (codeset_is.calls b false _ HB.out).mono ?_; rintro e' w' ⟨rfl, ⟨nd2, rfl⟩⟩))
  exact bodyPost_ret (v := .tuple #[.string ⟨#[]⟩, .int .i64 0, .int .i64 1]) (by simp [results, Tryd.f21, go_sem]) rfl ⟨rfl, by repeat (first | exact Below.refl _ _ | apply below_alloc | apply pw_below_drewN | apply below_drew1 | refine below_set ?_ (Nat.le_refl _) | refine below_set ?_ (Nat.le_succ _) | refine below_set ?_ (show w.heap.size ≤ w.heap.size + 1 + 1 by omega) | refine below_set ?_ (show w.heap.size ≤ w.heap.size + 1 + 1 + 1 by omega))⟩
set_option maxHeartbeats 1000000 in
set_option maxRecDepth 100000 in
theorem conv_long (a b : Int) (ha : codeset_is.f a = some true) (hb : codeset_is.f b = some true) (s : ByteArray) (hs : 65536 < s.size) (w : World) :
    Calls Tryd.prog 21 #[.int .i64 a, .int .i64 b, .string s] w fun e' w' => e' = .returned (.tuple #[.string ⟨#[]⟩, .int .i64 0, .int .i64 3]) ∧ Below w.heap.size w w' := by
  have HA := Aside0.mk ha
  have HB := Aside0.mk hb
  have d0 : decide ((65536 : Int) < (s.size : Int)) = true := decide_eq_true (by omega)
  have d1 : decide (65536 < s.size) = true := decide_eq_true hs
  clear ha hb
  go_enter Tryd.func21, Tryd.ntmps21
  go_wp2_with (first | (go_at_call 30; refine (codeset_is.calls a true _ HA.out).mono ?_; rintro e' w' ⟨rfl, ⟨nd, rfl⟩⟩) | (go_at_call 30; refine (codeset_is.calls b true _ HB.out).mono ?_; rintro e' w' ⟨rfl, ⟨nd2, rfl⟩⟩))
  exact bodyPost_ret (v := .tuple #[.string ⟨#[]⟩, .int .i64 0, .int .i64 3]) (by simp [results, Tryd.f21, go_sem]) rfl ⟨rfl, by repeat (first | exact Below.refl _ _ | apply below_alloc | apply pw_below_drewN | apply below_drew1 | refine below_set ?_ (Nat.le_refl _) | refine below_set ?_ (Nat.le_succ _) | refine below_set ?_ (show w.heap.size ≤ w.heap.size + 1 + 1 by omega) | refine below_set ?_ (show w.heap.size ≤ w.heap.size + 1 + 1 + 1 by omega))⟩

theorem is_val (n : Int) : codeset_is.f n = some (decide (1 ≤ n ∧ n ≤ 5)) := by
  unfold codeset_is.f
  by_cases h1 : n ≥ 1
  · rw [if_pos h1]
    by_cases h5 : n ≤ 5
    · simp [h5]; omega
    · simp [h5]
  · rw [if_neg h1]
    simp; omega

def codeset_Convert.f (a b : Int) (s : ByteArray) : Option (ByteArray × Int × Int) := if (1 ≤ a ∧ a ≤ 5) ∧ (1 ≤ b ∧ b ≤ 5) then (if s.size > 65536 then some (⟨#[]⟩, 0, 3) else (seqF (nxF 16 a) s (s.size + 1) 0).bind fun xs => if xs.length ≤ 17592186044415 then some (convOf (wr b) xs []) else none) else some (⟨#[]⟩, 0, 1)

theorem codeset_Convert.calls (a0 : Int) (a1 : Int) (a2 : ByteArray) (r1 : ByteArray) (r2 : Int) (r3 : Int) (w : World) (h : codeset_Convert.f a0 a1 a2 = some (r1, r2, r3)) :
    Calls Tryd.prog 21 #[.int .i64 a0, .int .i64 a1, .string a2] w fun e w' => e = .returned (.tuple #[.string r1, .int .i64 r2, .int .i64 r3]) ∧ Below w.heap.size w w' := by
  unfold codeset_Convert.f at h
  by_cases ha : 1 ≤ a0 ∧ a0 ≤ 5
  · by_cases hb : 1 ≤ a1 ∧ a1 ≤ 5
    · rw [if_pos ⟨ha, hb⟩] at h
      have h1 : codeset_is.f a0 = some true := by rw [is_val, decide_eq_true ha]
      have h2 : codeset_is.f a1 = some true := by rw [is_val, decide_eq_true hb]
      by_cases hs : a2.size > 65536
      · rw [if_pos hs] at h
        simp only [Option.some.injEq, Prod.mk.injEq] at h
        obtain ⟨rfl, rfl, rfl⟩ := h
        exact conv_long a0 a1 h1 h2 a2 hs w
      · rw [if_neg hs] at h
        obtain ⟨xs, hx, h⟩ := Option.bind_eq_some_iff.mp h
        by_cases hl : xs.length ≤ 17592186044415
        · rw [if_pos hl] at h
          have := conv_go 16 a0 a1 ha.1 ha.2 hb.1 hb.2 a2 _ xs (by omega) hx hl w
          rw [Option.some.inj h] at this
          exact this
        · rw [if_neg hl] at h
          cases h
    · rw [if_neg (fun c => hb c.2)] at h
      simp only [Option.some.injEq, Prod.mk.injEq] at h
      obtain ⟨rfl, rfl, rfl⟩ := h
      exact conv_not2 a0 a1 (by rw [is_val, decide_eq_true ha]) (by rw [is_val, decide_eq_false hb]) a2 w
  · rw [if_neg (fun c => ha c.1)] at h
    simp only [Option.some.injEq, Prod.mk.injEq] at h
    obtain ⟨rfl, rfl, rfl⟩ := h
    exact conv_not1 a0 a1 (by rw [is_val, decide_eq_false ha]) a2 w

end Go.Proofs.YtphjfhglapkmhaaDoor.P
