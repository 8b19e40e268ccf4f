import Derived.Test.YteioboechlnogaaPx2
import Derived.Test.YteioboechlnogaaPx1
import Derived.Shelf.Abstract
import Derived.WalkLawsBesides
namespace Go.Proofs.Yteioboechlnogaa.P
open Go.Shelf Go.RowKit Go.Proofs.YteioboechlnogaaW.PrintWords Go.Proofs.YteioboechlnogaaW.PrintLast Go.Proofs.YteioboechlnogaaW.PrintMore

def setsV : Value := .agg #[.iface 78 (.agg #[.int .i64 127, .int .i64 0]), .iface 78 (.agg #[.int .i64 255, .int .i64 0]), .iface 80 (.agg #[]), .iface 81 (.agg #[]), .iface 78 (.agg #[.int .i64 199, .int .i64 772])]
def setsO : Obj := .cells #[.iface 78 (.agg #[.int .i64 127, .int .i64 0]), .iface 78 (.agg #[.int .i64 255, .int .i64 0]), .iface 80 (.agg #[]), .iface 81 (.agg #[]), .iface 78 (.agg #[.int .i64 199, .int .i64 772])] 52

set_option maxHeartbeats 1000000 in
set_option maxRecDepth 100000 in
theorem sets_calls (w : World) : Calls Try.prog 27 #[] w fun e w' => e = .returned setsV ∧ w' = w.alloc setsO := by
  go_enter Try.func27, Try.ntmps27
  go_wp2
  exact bodyPost_ret (v := setsV) (by simp [results, Try.f27, go_sem, setsV]) rfl ⟨rfl, rfl⟩

/-- Of the code set n: its value's type, its value, the numbers of its methods. -/
def tyV (n : Int) : TypeId := if n = 3 then 80 else if n = 4 then 81 else 78
def agV (n : Int) : Value := if n = 1 then .agg #[.int .i64 127, .int .i64 0] else if n = 2 then .agg #[.int .i64 255, .int .i64 0] else if n = 3 then .agg #[] else if n = 4 then .agg #[] else .agg #[.int .i64 199, .int .i64 772]
def fnW (n : Int) : Nat := if n = 3 then 70 else if n = 4 then 73 else 68
def fnN (n : Int) : Nat := if n = 3 then 69 else if n = 4 then 72 else 67
def wrF (n p : Int) : Option (ByteArray × Bool) := if n = 1 then codeset_single_write.f 127 0 p else if n = 2 then codeset_single_write.f 255 0 p else if n = 3 then codeset_eight_write.f p else if n = 4 then codeset_sixteen_write.f p else codeset_single_write.f 199 772 p
def nxF (k : Nat) (n : Int) (s : ByteArray) : Option (Int × Int) := if n = 1 then codeset_single_next.f 127 0 s else if n = 2 then codeset_single_next.f 255 0 s else if n = 3 then codeset_eight_next.f k s else if n = 4 then codeset_sixteen_next.f k s else codeset_single_next.f 199 772 s

theorem five {n : Int} (h1 : 1 ≤ n) (h5 : n ≤ 5) : n = 1 ∨ n = 2 ∨ n = 3 ∨ n = 4 ∨ n = 5 := by omega

theorem ix {n : Int} (h1 : 1 ≤ n) (h5 : n ≤ 5) : ∀ w, (Instr.index 52 setsV (.int .i64 (n - 1))).run Try.prog w = .ok (.iface (tyV n) (agV n)) w := by
  rcases five h1 h5 with rfl | rfl | rfl | rfl | rfl <;> exact fun _ => by kernel_rfl
theorem ixw {n : Int} (h1 : 1 ≤ n) (h5 : n ≤ 5) : ∀ w, (Instr.index 52 setsV (.int .i64 (IntKind.i64.wrap (n - 1)))).run Try.prog w = .ok (.iface (tyV n) (agV n)) w := by
  rcases five h1 h5 with rfl | rfl | rfl | rfl | rfl <;> exact fun _ => by kernel_rfl
theorem mW {n : Int} (h1 : 1 ≤ n) (h5 : n ≤ 5) : ∀ w, (method 207 (tyV n) (agV n) "intermede/codeset.write").run Try.prog w = .ok (fnW n, agV n) w := by
  rcases five h1 h5 with rfl | rfl | rfl | rfl | rfl <;> exact fun _ => by kernel_rfl
theorem mN {n : Int} (h1 : 1 ≤ n) (h5 : n ≤ 5) : ∀ w, (method 207 (tyV n) (agV n) "intermede/codeset.next").run Try.prog w = .ok (fnN n, agV n) w := by
  rcases five h1 h5 with rfl | rfl | rfl | rfl | rfl <;> exact fun _ => by kernel_rfl
theorem eW {n : Int} (h1 : 1 ≤ n) (h5 : n ≤ 5) : ∀ args w, (callFunc (fnW n) args).run Try.prog w = .ok (.enter (fnW n) args) w := by
  rcases five h1 h5 with rfl | rfl | rfl | rfl | rfl
  · exact enters_of Try.func68 (by kernel_rfl) rfl
  · exact enters_of Try.func68 (by kernel_rfl) rfl
  · exact enters_of Try.func70 (by kernel_rfl) rfl
  · exact enters_of Try.func73 (by kernel_rfl) rfl
  · exact enters_of Try.func68 (by kernel_rfl) rfl
theorem eN {n : Int} (h1 : 1 ≤ n) (h5 : n ≤ 5) : ∀ args w, (callFunc (fnN n) args).run Try.prog w = .ok (.enter (fnN n) args) w := by
  rcases five h1 h5 with rfl | rfl | rfl | rfl | rfl
  · exact enters_of Try.func67 (by kernel_rfl) rfl
  · exact enters_of Try.func67 (by kernel_rfl) rfl
  · exact enters_of Try.func69 (by kernel_rfl) rfl
  · exact enters_of Try.func72 (by kernel_rfl) rfl
  · exact enters_of Try.func67 (by kernel_rfl) rfl
theorem write_calls {n : Int} (h1 : 1 ≤ n) (h5 : n ≤ 5) (p : Int) (r1 : ByteArray) (r2 : Bool) (w : World) (h : Aside0 (wrF n p = some (r1, r2))) :
    Calls Try.prog (fnW n) #[agV n, .int .i64 p] w fun e w' => e = .returned (.tuple #[.string r1, .bool r2]) ∧ Below w.heap.size w w' := by
  have h := h.out
  rcases five h1 h5 with rfl | rfl | rfl | rfl | rfl
  · exact codeset_single_write.calls 127 0 p r1 r2 w h
  · exact codeset_single_write.calls 255 0 p r1 r2 w h
  · exact codeset_eight_write.calls p r1 r2 w h
  · exact codeset_sixteen_write.calls p r1 r2 w h
  · exact codeset_single_write.calls 199 772 p r1 r2 w h
theorem next_calls (k : Nat) {n : Int} (h1 : 1 ≤ n) (h5 : n ≤ 5) (s : ByteArray) (r1 r2 : Int) (w : World) (h : Aside0 (nxF k n s = some (r1, r2))) :
    Calls Try.prog (fnN n) #[agV n, .string s] w fun e w' => e = .returned (.tuple #[.int .i64 r1, .int .i64 r2]) ∧ Below w.heap.size w w' := by
  have h := h.out
  rcases five h1 h5 with rfl | rfl | rfl | rfl | rfl
  · exact codeset_single_next.calls 127 0 s r1 r2 w h
  · exact codeset_single_next.calls 255 0 s r1 r2 w h
  · exact codeset_eight_next.calls k s r1 r2 w h
  · exact codeset_sixteen_next.calls k s r1 r2 w h
  · exact codeset_single_next.calls 199 772 s r1 r2 w h

set_option maxHeartbeats 1000000 in
set_option maxRecDepth 100000 in
theorem conv1_calls (n p : Int) (h1 : 1 ≤ n) (h5 : n ≤ 5) (b : Nat) (r1 : ByteArray) (r2 : Bool) (w : World) (H : Aside0 (wrF n p = some (r1, r2))) (hc : w.cell? ⟨b, 0, none⟩ = some (.int .i64 n)) :
    Calls Try.prog 26 #[.int .i64 p, .pointer (some ⟨b, 0, none⟩)] w fun e w' => e = .returned (.tuple #[.string r1, .bool r2]) ∧ Below w.heap.size w w' := by
  have i0 := ixw h1 h5
  have m0 := mW h1 h5
  have e0 := eW h1 h5
  have hlt : b < w.heap.size := World.block_lt_of_cell? w _ hc
  have hcA : ∀ o, (w.alloc o).drew.cell? ⟨b, 0, none⟩ = some (.int .i64 n) := fun o => (((Below.refl w.heap.size w).alloc (Nat.le_refl _) o).drew.cell (p := ⟨b, 0, none⟩) hlt).trans hc
  go_enter Try.func26, Try.ntmps26
  go_wp2
  go_region_held3 (fun w' => w'.cell? ⟨b, 0, none⟩ = some (.int .i64 n)) (first | go_keep | exact (hb.cell (p := ⟨b, 0, none⟩) (by simp; omega)).trans (hcA setsO)) (first | (go_at_call 27; refine (sets_calls _).mono ?_; rintro e w' ⟨rfl, rfl⟩) | (go_at_fn (fnW n); refine (write_calls h1 h5 p r1 r2 _ H).mono ?_; rintro e w' ⟨rfl, hb⟩))
  go_wp2
  go_ret2
  exact ⟨rfl, (((Below.refl w.heap.size w).alloc (Nat.le_refl _) setsO).drew).trans (hb.mono (by simp))⟩

end Go.Proofs.Yteioboechlnogaa.P
