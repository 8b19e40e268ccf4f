/- It is proved of the code sets' methods what they answer, through the interface. No condition beyond the lemmas' own. -/
import Derived.Test.YtphjfhglapkmhaaDoorPx2
import Derived.Test.YtphjfhglapkmhaaDoorPx1
import Derived.Shelf.Abstract
import Derived.WalkLawsBesides
namespace Go.Proofs.YtphjfhglapkmhaaDoor.P
open Go.Shelf Go.RowKit Go.Proofs.YtphjfhglapkmhaaDoorW.PrintWords Go.Proofs.YtphjfhglapkmhaaDoorW.PrintLast Go.Proofs.YtphjfhglapkmhaaDoorW.PrintMore

def setsV : Value := .agg #[.iface 75 (.agg #[.int .i64 127, .int .i64 0]), .iface 75 (.agg #[.int .i64 255, .int .i64 0]), .iface 77 (.agg #[]), .iface 78 (.agg #[]), .iface 75 (.agg #[.int .i64 199, .int .i64 772])]
def setsO : Obj := .cells #[.iface 75 (.agg #[.int .i64 127, .int .i64 0]), .iface 75 (.agg #[.int .i64 255, .int .i64 0]), .iface 77 (.agg #[]), .iface 78 (.agg #[]), .iface 75 (.agg #[.int .i64 199, .int .i64 772])] 55

set_option maxHeartbeats 1000000 in
set_option maxRecDepth 100000 in
theorem sets_calls (w : World) : Calls Tryd.prog 35 #[] w fun e w' => e = .returned setsV ∧ w' = w.alloc setsO := by
  go_enter Tryd.func35, Tryd.ntmps35
  go_wp2
  exact bodyPost_ret (v := setsV) (by simp [results, Tryd.f35, go_sem, setsV]) rfl ⟨rfl, rfl⟩

/-- Of the code set n: its value's type, its value, the numbers of its methods. -/
def tyV (n : Int) : TypeId := if n = 3 then 77 else if n = 4 then 78 else 75
def agV (n : Int) : Value := if n = 1 then .agg #[.int .i64 127, .int .i64 0] else if n = 2 then .agg #[.int .i64 255, .int .i64 0] else if n = 3 then .agg #[] else if n = 4 then .agg #[] else .agg #[.int .i64 199, .int .i64 772]
def fnW (n : Int) : Nat := if n = 3 then 102 else if n = 4 then 105 else 100
def fnN (n : Int) : Nat := if n = 3 then 101 else if n = 4 then 104 else 99
def wrF (n p : Int) : Option (ByteArray × Bool) := if n = 1 then codeset_single_write.f 127 0 p else if n = 2 then codeset_single_write.f 255 0 p else if n = 3 then codeset_eight_write.f p else if n = 4 then codeset_sixteen_write.f p else codeset_single_write.f 199 772 p
def nxF (k : Nat) (n : Int) (s : ByteArray) : Option (Int × Int) := if n = 1 then codeset_single_next.f 127 0 s else if n = 2 then codeset_single_next.f 255 0 s else if n = 3 then codeset_eight_next.f k s else if n = 4 then codeset_sixteen_next.f k s else codeset_single_next.f 199 772 s

theorem five {n : Int} (h1 : 1 ≤ n) (h5 : n ≤ 5) : n = 1 ∨ n = 2 ∨ n = 3 ∨ n = 4 ∨ n = 5 := by omega

set_option maxRecDepth 100000 in
theorem ix {n : Int} (h1 : 1 ≤ n) (h5 : n ≤ 5) : ∀ w, (Instr.index 55 setsV (.int .i64 (n - 1))).run Tryd.prog w = .ok (.iface (tyV n) (agV n)) w := by
  rcases five h1 h5 with rfl | rfl | rfl | rfl | rfl <;> exact fun _ => by kernel_rfl
set_option maxRecDepth 100000 in
theorem ixw {n : Int} (h1 : 1 ≤ n) (h5 : n ≤ 5) : ∀ w, (Instr.index 55 setsV (.int .i64 (IntKind.i64.wrap (n - 1)))).run Tryd.prog w = .ok (.iface (tyV n) (agV n)) w := by
  rcases five h1 h5 with rfl | rfl | rfl | rfl | rfl <;> exact fun _ => by kernel_rfl
set_option maxRecDepth 100000 in
theorem mW {n : Int} (h1 : 1 ≤ n) (h5 : n ≤ 5) : ∀ w, (method 234 (tyV n) (agV n) "intermede/codeset.write").run Tryd.prog w = .ok (fnW n, agV n) w := by
  rcases five h1 h5 with rfl | rfl | rfl | rfl | rfl <;> exact fun _ => by kernel_rfl
set_option maxRecDepth 100000 in
theorem mN {n : Int} (h1 : 1 ≤ n) (h5 : n ≤ 5) : ∀ w, (method 234 (tyV n) (agV n) "intermede/codeset.next").run Tryd.prog w = .ok (fnN n, agV n) w := by
  rcases five h1 h5 with rfl | rfl | rfl | rfl | rfl <;> exact fun _ => by kernel_rfl
set_option maxRecDepth 100000 in
theorem eW {n : Int} (h1 : 1 ≤ n) (h5 : n ≤ 5) : ∀ args w, (callFunc (fnW n) args).run Tryd.prog w = .ok (.enter (fnW n) args) w := by
  rcases five h1 h5 with rfl | rfl | rfl | rfl | rfl
  · exact enters_of Tryd.func100 (by kernel_rfl) rfl
  · exact enters_of Tryd.func100 (by kernel_rfl) rfl
  · exact enters_of Tryd.func102 (by kernel_rfl) rfl
  · exact enters_of Tryd.func105 (by kernel_rfl) rfl
  · exact enters_of Tryd.func100 (by kernel_rfl) rfl
set_option maxRecDepth 100000 in
theorem eN {n : Int} (h1 : 1 ≤ n) (h5 : n ≤ 5) : ∀ args w, (callFunc (fnN n) args).run Tryd.prog w = .ok (.enter (fnN n) args) w := by
  rcases five h1 h5 with rfl | rfl | rfl | rfl | rfl
  · exact enters_of Tryd.func99 (by kernel_rfl) rfl
  · exact enters_of Tryd.func99 (by kernel_rfl) rfl
  · exact enters_of Tryd.func101 (by kernel_rfl) rfl
  · exact enters_of Tryd.func104 (by kernel_rfl) rfl
  · exact enters_of Tryd.func99 (by kernel_rfl) rfl
theorem write_calls {n : Int} (h1 : 1 ≤ n) (h5 : n ≤ 5) (p : Int) (r1 : ByteArray) (r2 : Bool) (w : World) (h : Aside0 (wrF n p = some (r1, r2))) :
    Calls Tryd.prog (fnW n) #[agV n, .int .i64 p] w fun e w' => e = .returned (.tuple #[.string r1, .bool r2]) ∧ Below w.heap.size w w' := by
  have h := h.out
  rcases five h1 h5 with rfl | rfl | rfl | rfl | rfl
  · exact codeset_single_write.calls 127 0 p r1 r2 w h
  · exact codeset_single_write.calls 255 0 p r1 r2 w h
  · exact codeset_eight_write.calls p r1 r2 w h
  · exact codeset_sixteen_write.calls p r1 r2 w h
  · exact codeset_single_write.calls 199 772 p r1 r2 w h
theorem next_calls (k : Nat) {n : Int} (h1 : 1 ≤ n) (h5 : n ≤ 5) (s : ByteArray) (r1 r2 : Int) (w : World) (h : Aside0 (nxF k n s = some (r1, r2))) :
    Calls Tryd.prog (fnN n) #[agV n, .string s] w fun e w' => e = .returned (.tuple #[.int .i64 r1, .int .i64 r2]) ∧ Below w.heap.size w w' := by
  have h := h.out
  rcases five h1 h5 with rfl | rfl | rfl | rfl | rfl
  · exact codeset_single_next.calls 127 0 s r1 r2 w h
  · exact codeset_single_next.calls 255 0 s r1 r2 w h
  · exact codeset_eight_next.calls k s r1 r2 w h
  · exact codeset_sixteen_next.calls k s r1 r2 w h
  · exact codeset_single_next.calls 199 772 s r1 r2 w h

set_option maxHeartbeats 1000000 in
set_option maxRecDepth 100000 in
theorem conv1_calls (n p : Int) (h1 : 1 ≤ n) (h5 : n ≤ 5) (b : Nat) (r1 : ByteArray) (r2 : Bool) (w : World) (H : Aside0 (wrF n p = some (r1, r2))) (hc : w.cell? ⟨b, 0, none⟩ = some (.int .i64 n)) :
    Calls Tryd.prog 34 #[.int .i64 p, .pointer (some ⟨b, 0, none⟩)] w fun e w' => e = .returned (.tuple #[.string r1, .bool r2]) ∧ Below w.heap.size w w' := by
  have i0 := ixw h1 h5
  have m0 := mW h1 h5
  have e0 := eW h1 h5
  have hlt : b < w.heap.size := World.block_lt_of_cell? w _ hc
  have hcA : ∀ o, (w.alloc o).drew.cell? ⟨b, 0, none⟩ = some (.int .i64 n) := fun o => (((Below.refl w.heap.size w).alloc (Nat.le_refl _) o).drew.cell (p := ⟨b, 0, none⟩) hlt).trans hc
  go_enter Tryd.func34, Tryd.ntmps34
  go_wp2
  go_region_held3 (fun w' => w'.cell? ⟨b, 0, none⟩ = some (.int .i64 n)) (first | go_keep | exact (hb.cell (p := ⟨b, 0, none⟩) (by simp; omega)).trans (hcA setsO)) (first | (go_at_call 35; refine (sets_calls _).mono ?_; rintro e w' ⟨rfl, rfl⟩) | (go_at_fn (fnW n); refine (write_calls h1 h5 p r1 r2 _ H).mono ?_; rintro e w' ⟨rfl, hb⟩))
  go_wp2
  go_ret2
  exact ⟨rfl, (((Below.refl w.heap.size w).alloc (Nat.le_refl _) setsO).drew).trans (hb.mono (by simp))⟩

end Go.Proofs.YtphjfhglapkmhaaDoor.P
