/- It is proved of what the evaluator is told of this program that it holds, so that an evaluation is worth a call on the machine. No condition. -/
import Derived.Test.YtodfenocpbolcaaLH
import Derived.KernelRfl
import GoSem.Extern.BytealgCompare
import GoSem.Op.String
set_option maxRecDepth 100000
set_option maxHeartbeats 100000
namespace Go.Proofs.Ytodfenocpbolcaa.E
open Go
theorem hmixed : Try.prog.follows .mixedOrders = true := by kernel_rfl
theorem lkM_mem : ∀ {l : List (Nat × String × Nat)} {t : Nat} {m : String} {g : Nat}, lkM l t m = some g → (t, m, g) ∈ l
  | [], t, m, g, h => by cases h
  | (k, n, g') :: r, t, m, g, h => by
    simp only [lkM] at h
    cases hb : (Nat.beq k t && decide (n = m)) with
    | true =>
      rw [hb] at h
      simp only [cond_true, Option.some.injEq] at h
      simp only [Bool.and_eq_true, decide_eq_true_eq] at hb
      have := Nat.eq_of_beq_eq_true hb.1
      rw [← h, ← this, ← hb.2]
      exact List.mem_cons_self
    | false => rw [hb] at h; exact List.mem_cons_of_mem _ (lkM_mem h)
def AllM : List (Nat × String × Nat) → Prop
  | [] => True
  | p :: r => (∀ (v : Value) (w : World), (method (Try.prog.types.size + Made.depth) p.1 v p.2.1).run Try.prog w = .ok (p.2.2, v) w) ∧ AllM r
theorem AllM.mem : ∀ {l : List (Nat × String × Nat)} {p : Nat × String × Nat}, AllM l → p ∈ l → ∀ (v : Value) (w : World), (method (Try.prog.types.size + Made.depth) p.1 v p.2.1).run Try.prog w = .ok (p.2.2, v) w
  | [], p, _, h => by cases h
  | q :: r, p, ⟨h1, h2⟩, h => by
    rcases List.mem_cons.1 h with h | h
    · rw [h]; exact h1
    · exact AllM.mem h2 h
theorem allM : AllM hMeth := ⟨fun v w => by kernel_rfl, fun v w => by kernel_rfl, fun v w => by kernel_rfl, fun v w => by kernel_rfl, fun v w => by kernel_rfl, fun v w => by kernel_rfl, fun v w => by kernel_rfl, fun v w => by kernel_rfl, fun v w => by kernel_rfl, fun v w => by kernel_rfl, fun v w => by kernel_rfl, trivial⟩
theorem hmeth (t : Nat) (m : String) (g : Nat) (h : HH.meth t m = some g) (v : Value) (w : World) : (method (Try.prog.types.size + Made.depth) t v m).run Try.prog w = .ok (g, v) w :=
  allM.mem (lkM_mem (show lkM hMeth t m = some g from h)) v w
theorem hok (g : Nat) (h : HH.ok g = true) (args : Array Value) (w : World) : (callFunc g args).run Try.prog w = .ok (.enter g args) w := ok_of hok_all g h args w
theorem hcmp (a b : ByteArray) (w : World) : (callFunc 31 #[.string a, .string b]).run Try.prog w = .ok (.value (.int .i64 (Extern.BytealgCompare.cmp a b))) w := by kernel_rfl
theorem hext0 (hc : ∀ a b, Extern.BytealgCompare.cmp a b = cmpS a b) : ∀ g e, HH.ext g = some e → ∀ args v, e args = some v → ∀ (M : Nat → Nat → Prop) (ρ : Nat → Option Nat) (w : World) (args' : Array Value), args'.size = args.length → (∀ (j : Nat) (v : V) (x : Value), args[j]? = some v → args'[j]? = some x → VRel M ρ w v x) →
    ∃ x, (callFunc g args').run Try.prog w = .ok (.value x) w ∧ VRel M ρ w v x := by
  intro g e hg args v hv M ρ w args' hs hr
  have hg : extOf g = some e := hg
  unfold extOf at hg
  split at hg
  · rename_i h1
    have hgm := lk_mem h1 (by decide)
    simp only [hExt, List.mem_cons, List.not_mem_nil, or_false, Prod.mk.injEq] at hgm
    obtain ⟨rfl, _⟩ := hgm
    cases hg
    simp only at hv
    split at hv
    · rename_i a b
      cases hv
      obtain ⟨l⟩ := args'
      match l, hs with
      | [x, y], _ =>
        have hx := hr 0 _ x rfl rfl
        have hy := hr 1 _ y rfl rfl
        cases hx
        cases hy
        exact ⟨_, (hcmp a b w).trans (by rw [hc]), VRel.int _ _⟩
    · cases hv
  · cases hg
theorem cmp_lists : ∀ (l m : List UInt8), (match (List.range (min l.length m.length)).find? fun i => l[i]?.getD 0 != m[i]?.getD 0 with
  | some i => if l[i]?.getD 0 < m[i]?.getD 0 then -1 else 1
  | none => if l.length < m.length then -1 else if l.length > m.length then 1 else 0 : Int) = if Op.bytesLess l m then -1 else if l = m then 0 else 1
  | [], m => by cases m <;> simp [Op.bytesLess]
  | a :: l, [] => by simp [Op.bytesLess]
  | a :: l, b :: m => by
    have ih := cmp_lists l m
    simp only [List.length_cons, Nat.succ_min_succ, List.range_succ_eq_map, List.find?_cons, List.find?_map]
    simp only [List.getElem?_cons_zero, Option.getD_some, Function.comp_def, List.getElem?_cons_succ]
    by_cases h : a = b
    · subst h
      simp only [bne_self_eq_false]
      have e1 : Op.bytesLess (a :: l) (a :: m) = Op.bytesLess l m := by simp [Op.bytesLess]
      rw [e1]
      cases hf : (List.range (min l.length m.length)).find? (fun i => l[i]?.getD 0 != m[i]?.getD 0) with
      | none => rw [hf] at ih; simp at ih ⊢; exact ih
      | some i => rw [hf] at ih; simp at ih ⊢; exact ih
    · have : (a != b) = true := by simpa using h
      simp only [this]
      by_cases h2 : a < b
      · simp [Op.bytesLess, h2]
      · simp [Op.bytesLess, h2, h]
theorem data_len (s : ByteArray) : s.data.toList.length = s.size := by rw [Array.length_toList]; rfl
theorem toList_loop (s : ByteArray) : ∀ (k i : Nat) (r : List UInt8), i + k = s.size → ByteArray.toList.loop s i r = r.reverse ++ s.data.toList.drop i
  | 0, i, r, h => by
    rw [ByteArray.toList.loop, if_neg (by omega), List.drop_of_length_le (by rw [data_len]; omega)]; simp
  | k + 1, i, r, h => by
    have hi : i < s.data.toList.length := by rw [data_len]; omega
    rw [ByteArray.toList.loop, if_pos (by omega), toList_loop s k (i + 1) _ (by omega), List.drop_eq_getElem_cons hi]
    have : s.get! i = s.data.toList[i] := by
      have : i < s.data.size := by simpa using hi
      show s.data[i]! = _
      rw [getElem!_pos s.data i this]; simp
    simp [this]
theorem toList_data (s : ByteArray) : s.toList = s.data.toList := by
  unfold ByteArray.toList
  rw [toList_loop s s.size 0 [] (by omega)]; simp
theorem cmp_eq (a b : ByteArray) : Extern.BytealgCompare.cmp a b = if Op.bytesLess a.toList b.toList then -1 else if a.toList = b.toList then 0 else 1 := by
  rw [toList_data, toList_data, ← cmp_lists]
  unfold Extern.BytealgCompare.cmp
  have e : ∀ (s : ByteArray) (i : Nat), s[i]! = s.data.toList[i]?.getD 0 := by
    intro s i
    by_cases h : i < s.size
    · rw [getElem!_pos s i h, List.getElem?_eq_getElem (by rw [data_len]; exact h)]
      show s.data[i] = _
      simp
    · rw [getElem!_neg s i h, List.getElem?_eq_none (by rw [data_len]; omega)]; rfl
  simp only [e, data_len]
  rfl
theorem hHH : HOk Try.prog HH := ⟨hmixed, hext0 (fun a b => cmp_eq a b), hok, fun g cs h => (by cases h), hmeth⟩
theorem RUN_rec : RecOk Try.prog HH RUN := run_rec hHH (fun f g h => by cases h)
end Go.Proofs.Ytodfenocpbolcaa.E
