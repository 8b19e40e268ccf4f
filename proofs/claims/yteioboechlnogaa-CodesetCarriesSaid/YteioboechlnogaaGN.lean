import Derived.Test.YteioboechlnogaaGS
import Derived.Test.YteioboechlnogaaPx4
namespace Go.Proofs.Yteioboechlnogaa.P
open Go.Shelf Go.RowKit Go.Proofs.YteioboechlnogaaW.PrintWords Go.Proofs.YteioboechlnogaaW.PrintLast Go.Proofs.YteioboechlnogaaW.PrintMore

def namesV : Value := .agg #[.string ⟨#[97, 115, 99, 105, 105]⟩, .string ⟨#[108, 97, 116, 105, 110]⟩, .string ⟨#[117, 116, 102, 56]⟩, .string ⟨#[117, 116, 102, 49, 54]⟩, .string ⟨#[103, 114, 101, 101, 107]⟩]
def namesO : Obj := .cells #[.string ⟨#[97, 115, 99, 105, 105]⟩, .string ⟨#[108, 97, 116, 105, 110]⟩, .string ⟨#[117, 116, 102, 56]⟩, .string ⟨#[117, 116, 102, 49, 54]⟩, .string ⟨#[103, 114, 101, 101, 107]⟩] 74

set_option maxHeartbeats 1000000 in
set_option maxRecDepth 100000 in
theorem names_calls (w : World) : Calls Try.prog 40 #[] w fun e w' => e = .returned namesV ∧ w' = w.alloc namesO := by
  go_enter Try.func40, Try.ntmps40
  go_wp2
  exact bodyPost_ret (v := namesV) (by simp [results, Try.f40, go_sem, namesV]) rfl ⟨rfl, rfl⟩

def nameOf (n : Int) : ByteArray := if n = 1 then ⟨#[97, 115, 99, 105, 105]⟩ else if n = 2 then ⟨#[108, 97, 116, 105, 110]⟩ else if n = 3 then ⟨#[117, 116, 102, 56]⟩ else if n = 4 then ⟨#[117, 116, 102, 49, 54]⟩ else ⟨#[103, 114, 101, 101, 107]⟩
def codeset_Name.f (n : Int) : Option ByteArray := if 1 ≤ n ∧ n ≤ 5 then some (nameOf n) else some ⟨#[]⟩

theorem nix {n : Int} (h1 : 1 ≤ n) (h5 : n ≤ 5) : ∀ w, (Instr.index 74 namesV (.int .i64 (n - 1))).run Try.prog w = .ok (.string (nameOf n)) w := by
  rcases five h1 h5 with rfl | rfl | rfl | rfl | rfl <;> exact fun _ => by kernel_rfl

theorem nis_yes {n : Int} (h1 : 1 ≤ n) (h5 : n ≤ 5) : codeset_is.f n = some true := by simp [codeset_is.f, h1, h5]
theorem nis_no {n : Int} (h : ¬ (1 ≤ n ∧ n ≤ 5)) : codeset_is.f n = some false := by
  unfold codeset_is.f
  by_cases h1 : 1 ≤ n
  · rw [if_pos h1]; congr; exact decide_eq_false (fun h5 => h ⟨h1, h5⟩)
  · rw [if_neg h1]

set_option maxHeartbeats 1000000 in
set_option maxRecDepth 100000 in
theorem name_no (n : Int) (w : World) (h : ¬ (1 ≤ n ∧ n ≤ 5)) :
    Calls Try.prog 22 #[.int .i64 n] w fun e w' => e = .returned (.string ⟨#[]⟩) ∧ Below w.heap.size w w' := by
  have H := Aside0.mk (nis_no h)
  clear h
  go_enter Try.func22, Try.ntmps22
  go_wp2_with (go_at_call 25; (with_reducible refine (codeset_is.calls n false _ H.out).mono ?_); rintro e w' ⟨rfl, ⟨nd, rfl⟩⟩)
  go_ret
  exact ⟨rfl, pw_below_drewN (Below.refl _ _) _⟩

set_option maxHeartbeats 1000000 in
set_option maxRecDepth 100000 in
theorem name_yes (n : Int) (w : World) (h1 : 1 ≤ n) (h5 : n ≤ 5) :
    Calls Try.prog 22 #[.int .i64 n] w fun e w' => e = .returned (.string (nameOf n)) ∧ Below w.heap.size w w' := by
  have H := Aside0.mk (nis_yes h1 h5)
  have i0 := nix h1 h5
  go_enter Try.func22, Try.ntmps22
  go_wp2_with (first | (go_at_call 25; (with_reducible refine (codeset_is.calls n true _ H.out).mono ?_); rintro e w' ⟨rfl, ⟨nd, rfl⟩⟩) | (go_at_call 40; refine (names_calls _).mono ?_; rintro e w' ⟨rfl, rfl⟩))
  go_ret
  exact ⟨rfl, by repeat (first | exact Below.refl _ _ | apply below_alloc | apply pw_below_drewN | apply below_drew1)⟩

theorem codeset_Name.calls (a0 : Int) (r : ByteArray) (w : World) (h : codeset_Name.f a0 = some r) :
    Calls Try.prog 22 #[.int .i64 a0] w fun e w' => e = .returned (.string r) ∧ Below w.heap.size w w' := by
  unfold codeset_Name.f at h
  by_cases hn : 1 ≤ a0 ∧ a0 ≤ 5
  · rw [if_pos hn] at h
    obtain rfl := Option.some.inj h
    exact name_yes a0 w hn.1 hn.2
  · rw [if_neg hn] at h
    obtain rfl := Option.some.inj h
    exact name_no a0 w hn

end Go.Proofs.Yteioboechlnogaa.P
