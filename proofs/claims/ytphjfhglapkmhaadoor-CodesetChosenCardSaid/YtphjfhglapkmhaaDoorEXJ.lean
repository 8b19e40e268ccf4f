/- It is proved that an evaluation with cut points, and one with more fuel, tells no less. No condition beyond the lemmas' own. -/
import Derived.Test.YtphjfhglapkmhaaDoorE6
namespace Go.Proofs.YtphjfhglapkmhaaDoor.E
open Go

abbrev Cuts := FuncId → List Nat → St → R
def cutK (j : Bool) (x : St → R) (K : Cont) : Cont := fun
  | .normal, st => bif j then x st else K .normal st
  | e, st => K e st
def roundK (x : St → R) (K : Cont) : Cont := fun
  | .normal, st => x st
  | e, st => K e st
section
variable (P : Program) (H : Hints)
noncomputable def codeX (rec : Rec) (f : FuncId) (J : List Nat → Bool) (X : List Nat → St → R) : List Nat → Code → Cont → St → R
  | p, .seq x y, K, st => codeX rec f J X (0 :: p) x (seqK (codeX rec f J X (1 :: p) y K) K) st
  | p, .cond c x y, K, st => match (ev H st c).1 with
    | .bool b => bif b then (branch H f c true st).bind (codeX rec f J X (0 :: p) x (cutK (J p) (X p) K)) else (branch H f c false st).bind (codeX rec f J X (1 :: p) y (cutK (J p) (X p) K))
    | _ => none
  | p, .block id c, K, st => codeX rec f J X (0 :: p) c (blockK id (cutK (J p) (X p) K)) st
  | p, .loop _, _, st => X p st
  | p, .region id os d, K, st => codeT P H rec false f (.region id os d) (cutK (J p) (X p) K) st
  | _, c, K, st => codeT P H rec false f c K st
/-- The code at a place, and what stands behind it (the place read from the body's root, what is walked so far the other way round). -/
noncomputable def atX (rec : Rec) (f : FuncId) (J : List Nat → Bool) (X : List Nat → St → R) : List Nat → List Nat → Code → Cont → Code × Cont
  | p, 0 :: q, .seq x y, K => atX rec f J X (0 :: p) q x (seqK (codeX P H rec f J X (1 :: p) y K) K)
  | p, 1 :: q, .seq _ y, K => atX rec f J X (1 :: p) q y K
  | p, 0 :: q, .cond _ x _, K => atX rec f J X (0 :: p) q x (cutK (J p) (X p) K)
  | p, 1 :: q, .cond _ _ y, K => atX rec f J X (1 :: p) q y (cutK (J p) (X p) K)
  | p, 0 :: q, .block id c, K => atX rec f J X (0 :: p) q c (blockK id (cutK (J p) (X p) K))
  | p, 0 :: q, .loop c, K => atX rec f J X (0 :: p) q c (roundK (X p) K)
  | _, [], c, K => (c, K)
  | _, _, _, _ => (.skip, fun _ _ => none)
noncomputable def bodyX (rec : Rec) (J : FuncId → List Nat → Bool) (X : Cuts) (f : FuncId) (args : List V) (s : List O) : R := match P.funcs[f]? with
  | some fn => match fn.body with
    | some c => codeX P H rec f (J f) (X f) [] c (leaveTK P H rec f fn) (start (H.sites f) args fn.ntmps s)
    | none => none
  | none => none
/-- Behind a place. -/
noncomputable def exitX (rec : Rec) (J : FuncId → List Nat → Bool) (X : Cuts) (f : FuncId) (p : List Nat) (st : St) : R := match P.funcs[f]? with
  | some fn => match fn.body with
    | some c => (atX P H rec f (J f) (X f) [] p.reverse c (leaveTK P H rec f fn)).2 .normal st
    | none => none
  | none => none
/-- A round of the loop at a place. -/
noncomputable def roundX (rec : Rec) (J : FuncId → List Nat → Bool) (X : Cuts) (f : FuncId) (p : List Nat) (st : St) : R := match P.funcs[f]? with
  | some fn => match fn.body with
    | some c => match atX P H rec f (J f) (X f) [] p.reverse c (leaveTK P H rec f fn) with
      | (.loop b, K) => codeX P H rec f (J f) (X f) (0 :: p) b (roundK (X f p) K) st
      | _ => none
    | none => none
  | none => none
noncomputable def nodeK : Code × Cont → (Rec) → FuncId → St → R
  | (.loop b, K), rec, f, st => loopL (codeT P H rec false f b) K st
  | (_, K), _, _, st => K .normal st
/-- What the cut points stand for: at a loop its head, else what stands behind. -/
noncomputable def XX (rec : Rec) : Cuts := fun f p st => match P.funcs[f]? with
  | some fn => match fn.body with
    | some c => nodeK P H (atT P H rec false f p.reverse c (leaveTK P H rec f fn)) rec f st
    | none => none
  | none => none
end

section
variable {P : Program} {H : Hints} {rec : Rec} {f : FuncId} {J : List Nat → Bool} {X : List Nat → St → R}
theorem atT_skip (inr : Bool) (K : Cont) : ∀ q, atT P H rec inr f q .skip K = (.skip, K)
  | [] => by simp only [atT]
  | i :: q => by
    cases i with
    | zero => simp only [atT]
    | succ i => cases i <;> simp only [atT]
theorem atT_apps {inr : Bool} : ∀ (p q : List Nat) (c : Code) (K : Cont), atT P H rec inr f (p ++ q) c K = atT P H rec inr f q (atT P H rec inr f p c K).1 (atT P H rec inr f p c K).2 := by
  intro p q
  induction p with
  | nil => intro c K; cases c <;> simp [atT]
  | cons i p ih =>
    intro c K
    cases c with
    | seq x y =>
      match i with
      | 0 => exact ih x _
      | 1 => exact ih y _
      | n + 2 => simp [atT, atT_skip]
    | cond o x y =>
      match i with
      | 0 => exact ih x _
      | 1 => exact ih y _
      | n + 2 => simp [atT, atT_skip]
    | block id b =>
      match i with
      | 0 => exact ih b _
      | n + 1 => simp [atT, atT_skip]
    | loop b =>
      match i with
      | 0 => exact ih b _
      | n + 1 => simp [atT, atT_skip]
    | _ => simp [atT, atT_skip]
theorem atT_snoc {inr : Bool} {p : List Nat} {i : Nat} {c0 c : Code} {K0 K : Cont} (h : atT P H rec inr f p.reverse c0 K0 = (c, K)) : atT P H rec inr f (i :: p).reverse c0 K0 = atT P H rec inr f [i] c K := by
  rw [List.reverse_cons, atT_apps, h]
/-- What is handed in says no more than what it stands for. -/
def Sound (P : Program) (H : Hints) (rec : Rec) (f : FuncId) (X : List Nat → St → R) (c0 : Code) (K0 : Cont) : Prop :=
  ∀ p st o, X p st = some o → nodeK P H (atT P H rec false f p.reverse c0 K0) rec f st = some o
def KLe (K K' : Cont) : Prop := ∀ e st o, K e st = some o → K' e st = some o
theorem KLe.cut {c0 c : Code} {K0 K K' : Cont} {p : List Nat} (hX : Sound P H rec f X c0 K0) (hl : isLoop c = false) (h : atT P H rec false f p.reverse c0 K0 = (c, K')) (hK : KLe K K') : KLe (cutK (J p) (X p) K) K' := by
  intro e st o he
  cases e with
  | normal =>
    simp only [cutK] at he
    cases hj : J p with
    | false => rw [hj] at he; exact hK _ _ _ he
    | true =>
      rw [hj] at he
      have := hX p st o he
      rw [h] at this
      cases c <;> first | exact this | cases hl
  | exit i => exact hK _ _ _ he
  | ret => exact hK _ _ _ he
  | pan v => exact hK _ _ _ he
theorem KLe.block {K K' : Cont} {id : Nat} (hK : KLe K K') : KLe (blockK id K) (blockK id K') := by
  intro e st o he
  cases e with
  | exit i =>
    simp only [blockK] at he ⊢
    cases hb : i == id with
    | true => rw [hb] at he; exact hK _ _ _ he
    | false => rw [hb] at he; exact hK _ _ _ he
  | normal => exact hK _ _ _ he
  | ret => exact hK _ _ _ he
  | pan v => exact hK _ _ _ he
theorem KLe.seq {y y' : St → R} {K K' : Cont} (hy : ∀ st o, y st = some o → y' st = some o) (hK : KLe K K') : KLe (seqK y K) (seqK y' K') := by
  intro e st o he
  cases e with
  | normal => exact hy _ _ he
  | exit i => exact hK _ _ _ he
  | ret => exact hK _ _ _ he
  | pan v => exact hK _ _ _ he
theorem codeX_le {c0 : Code} {K0 : Cont} (hX : Sound P H rec f X c0 K0) : ∀ (c : Code) (p : List Nat) (K K' : Cont) (st : St) (o : Out), atT P H rec false f p.reverse c0 K0 = (c, K') → KLe K K' → codeX P H rec f J X p c K st = some o → codeT P H rec false f c K' st = some o := by
  intro c
  induction c with
  | seq x y ihx ihy =>
    intro p K K' st o hp hK h
    simp only [codeX] at h
    simp only [codeT]
    exact ihx (0 :: p) _ _ st o (by rw [atT_snoc hp]; simp only [atT]) (KLe.seq (fun st o h => ihy (1 :: p) _ _ st o (by rw [atT_snoc hp]; simp only [atT]) hK h) hK) h
  | cond t x y ihx ihy =>
    intro p K K' st o hp hK h
    have hc := KLe.cut (J := J) hX rfl hp hK
    simp only [codeX] at h
    simp only [codeT]
    cases hv : (ev H st t).1 with
    | bool b =>
      rw [hv] at h
      cases b with
      | true =>
        simp only [cond_true] at h ⊢
        obtain ⟨st', h1, h2⟩ := Option.bind_eq_some_iff.1 h
        rw [h1]
        exact ihx (0 :: p) _ _ st' o (by rw [atT_snoc hp]; simp only [atT]) hc h2
      | false =>
        simp only [cond_false] at h ⊢
        obtain ⟨st', h1, h2⟩ := Option.bind_eq_some_iff.1 h
        rw [h1]
        exact ihy (1 :: p) _ _ st' o (by rw [atT_snoc hp]; simp only [atT]) hc h2
    | _ => rw [hv] at h; cases h
  | block id c ih =>
    intro p K K' st o hp hK h
    simp only [codeX] at h
    simp only [codeT]
    exact ih (0 :: p) _ _ st o (by rw [atT_snoc hp]; simp only [atT]) (KLe.block (KLe.cut (J := J) hX rfl hp hK)) h
  | loop c ih =>
    intro p K K' st o hp hK h
    simp only [codeX] at h
    have := hX p st o h
    rw [hp] at this
    exact this
  | region id os d =>
    intro p K K' st o hp hK h
    simp only [codeX] at h
    exact codeT_le (fun e st h => KLe.cut (J := J) hX rfl hp hK e st o h) h
  | _ =>
    intro p K K' st o hp hK h
    simp only [codeX] at h
    exact codeT_le (fun e st h => hK e st o h) h
theorem atX_le {c0 : Code} {K0 : Cont} (hX : Sound P H rec f X c0 K0) : ∀ (q : List Nat) (p : List Nat) (c : Code) (K K' : Cont) (st : St) (o : Out), atT P H rec false f p.reverse c0 K0 = (c, K') → KLe K K' →
    ((atX P H rec f J X p q c K).1 = (atT P H rec false f q c K').1 ∧ KLe (atX P H rec f J X p q c K).2 (atT P H rec false f q c K').2) ∨ KLe (atX P H rec f J X p q c K).2 (fun _ _ => none) ∧ isLoop (atX P H rec f J X p q c K).1 = false := by
  intro q
  induction q with
  | nil =>
    intro p c K K' st o hp hK
    refine .inl ?_
    cases c <;> exact ⟨rfl, hK⟩
  | cons i q ih =>
    intro p c K K' st o hp hK
    have bad : KLe (fun _ _ => none) (fun _ _ => none) := fun _ _ _ h => h
    cases c with
    | seq x y =>
      match i with
      | 0 => exact ih (0 :: p) x _ _ st o (by rw [atT_snoc hp]; simp only [atT]) (KLe.seq (fun st o h => codeX_le hX y (1 :: p) _ _ st o (by rw [atT_snoc hp]; simp only [atT]) hK h) hK)
      | 1 => exact ih (1 :: p) y _ _ st o (by rw [atT_snoc hp]; simp only [atT]) hK
      | n + 2 => exact .inr ⟨bad, rfl⟩
    | cond t x y =>
      match i with
      | 0 => exact ih (0 :: p) x _ _ st o (by rw [atT_snoc hp]; simp only [atT]) (KLe.cut (J := J) hX rfl hp hK)
      | 1 => exact ih (1 :: p) y _ _ st o (by rw [atT_snoc hp]; simp only [atT]) (KLe.cut (J := J) hX rfl hp hK)
      | n + 2 => exact .inr ⟨bad, rfl⟩
    | block id b =>
      match i with
      | 0 => exact ih (0 :: p) b _ _ st o (by rw [atT_snoc hp]; simp only [atT]) (KLe.block (KLe.cut (J := J) hX rfl hp hK))
      | 1 => exact .inr ⟨bad, rfl⟩
      | n + 2 => exact .inr ⟨bad, rfl⟩
    | loop b =>
      match i with
      | 0 =>
        refine ih (0 :: p) b _ _ st o (by rw [atT_snoc hp]; simp only [atT]) ?_
        intro e st o he
        cases e with
        | normal =>
          have := hX p st o he
          rw [hp] at this
          exact this
        | exit i => exact hK _ _ _ he
        | ret => exact hK _ _ _ he
        | pan v => exact hK _ _ _ he
      | 1 => exact .inr ⟨bad, rfl⟩
      | n + 2 => exact .inr ⟨bad, rfl⟩
    | _ => cases i with
      | zero => exact .inr ⟨bad, rfl⟩
      | succ i => cases i <;> exact .inr ⟨bad, rfl⟩
end

section
variable {P : Program} {H : Hints} {G : FuncId → Option (List V → List O → Option Out)} {J : FuncId → List Nat → Bool}
theorem XX_sound {rec : Rec} {f : FuncId} {fn : Func} {c : Code} (hf : P.funcs[f]? = some fn) (hb : fn.body = some c) : Sound P H rec f (XX P H rec f) c (leaveTK P H rec f fn) := by
  intro p st o h
  unfold XX at h
  rw [hf] at h
  simp only [hb] at h
  exact h
theorem bodyX_of {f : FuncId} (hG : G f = none) {args : List V} {s : List O} {o : Out} (h : bodyX P H (run P H G) J (XX P H (run P H G)) f args s = some o) : run P H G f args s = some o := by
  unfold bodyX at h
  cases hf : P.funcs[f]? with
  | none => rw [hf] at h; cases h
  | some fn =>
    rw [hf] at h
    simp only at h
    cases hb : fn.body with
    | none => rw [hb] at h; cases h
    | some c =>
      rw [hb] at h
      have hc : atT P H (run P H G) false f ([] : List Nat).reverse c (leaveTK P H (run P H G) f fn) = (c, leaveTK P H (run P H G) f fn) := by cases c <;> rfl
      have := codeX_le (J := J f) (XX_sound (H := H) (rec := run P H G) hf hb) c [] _ _ _ o hc (fun _ _ _ h => h) h
      exact run_of hG hf hb (codeT_le (fun e st h => leaveTK_le h) this)
theorem exitX_of {rec : Rec} {f : FuncId} {p : List Nat} {st : St} {o : Out} (hl : (match P.funcs[f]? with | some fn => (match fn.body with | some c => !isLoop (atT P H rec false f p.reverse c (leaveTK P H rec f fn)).1 | none => false) | none => false) = true) (h : exitX P H rec J (XX P H rec) f p st = some o) : XX P H rec f p st = some o := by
  unfold exitX at h
  unfold XX
  cases hf : P.funcs[f]? with
  | none => rw [hf] at h; cases h
  | some fn =>
    rw [hf] at h hl
    simp only at h hl ⊢
    cases hb : fn.body with
    | none => rw [hb] at h; cases h
    | some c =>
      rw [hb] at h hl
      simp only at h hl ⊢
      have hc : atT P H rec false f ([] : List Nat).reverse c (leaveTK P H rec f fn) = (c, leaveTK P H rec f fn) := by cases c <;> rfl
      rcases atX_le (J := J f) (XX_sound (H := H) (rec := rec) hf hb) p.reverse [] c _ _ st o hc (fun _ _ _ h => h) with ⟨_, h2⟩ | ⟨h2, _⟩
      · have := h2 _ _ _ h
        generalize atT P H rec false f p.reverse c (leaveTK P H rec f fn) = q at this hl
        obtain ⟨c', K⟩ := q
        cases c' <;> first | exact this | simp [isLoop] at hl
      · have := h2 _ _ _ h
        cases this
theorem roundX_of {rec : Rec} {f : FuncId} {p : List Nat} {st : St} {o : Out} (h : roundX P H rec J (XX P H rec) f p st = some o) : XX P H rec f p st = some o := by
  unfold roundX at h
  cases hf : P.funcs[f]? with
  | none => rw [hf] at h; cases h
  | some fn =>
    rw [hf] at h
    simp only at h
    cases hb : fn.body with
    | none => rw [hb] at h; cases h
    | some c =>
      rw [hb] at h
      simp only at h
      have hc : atT P H rec false f ([] : List Nat).reverse c (leaveTK P H rec f fn) = (c, leaveTK P H rec f fn) := by cases c <;> rfl
      have hX := XX_sound (H := H) (rec := rec) hf hb
      have hxx : ∀ st, XX P H rec f p st = nodeK P H (atT P H rec false f p.reverse c (leaveTK P H rec f fn)) rec f st := by
        intro st
        unfold XX
        rw [hf]
        simp only [hb]
      have ha := atX_le (J := J f) hX p.reverse [] c _ _ st o hc (fun _ _ _ h => h)
      generalize hq : atX P H rec f (J f) (XX P H rec f) [] p.reverse c (leaveTK P H rec f fn) = q at h ha
      obtain ⟨c', K⟩ := q
      cases c' with
      | loop b =>
        simp only at h
        rcases ha with ⟨h1, h2⟩ | ⟨_, h2⟩
        · generalize hq' : atT P H rec false f p.reverse c (leaveTK P H rec f fn) = q' at h1 h2 hxx
          obtain ⟨c2, K2⟩ := q'
          simp only at h1 h2
          subst h1
          rw [hxx]
          simp only [nodeK]
          apply loopL_of
          refine codeX_le (J := J f) hX b (0 :: p) _ _ st o (by rw [atT_snoc hq']; simp only [atT] <;> congr 1) ?_ h
          intro e st o he
          cases e with
          | normal => simp only [roundK] at he; rw [hxx] at he; exact he
          | exit i => exact h2 _ _ _ he
          | ret => exact h2 _ _ _ he
          | pan v => exact h2 _ _ _ he
        · simp [isLoop] at h2
      | _ => cases h
end
end Go.Proofs.YtphjfhglapkmhaaDoor.E
