/- It is proved how the loop over a text's points ends. No condition beyond the lemmas' own. -/
import Derived.RangeFuncFrom
import Derived.Test.YtphjfhglapkmhaaDoorGI
namespace Go.Proofs.YtphjfhglapkmhaaDoor.P
open Go.Shelf Go.RowKit Go.Proofs.YtphjfhglapkmhaaDoorW.PrintWords Go.Proofs.YtphjfhglapkmhaaDoorW.PrintLast Go.Proofs.YtphjfhglapkmhaaDoorW.PrintMore
attribute [local go_sem] Oper.semAt_some

theorem kp2_t {Bn Bs : Nat} {A B C : World} (h : Kp2 Bn Bs A B) (k : Kp2 Bn Bs B C) : Kp2 Bn Bs A C := fun b _v hb hv => k b _ hb (h b _ hb hv)
theorem kp2_b {Bn Bs : Nat} (W : World) (l : Nat) (o o' : Obj) (h : W.heap[l]? = some o) (hc : o.isCells = false) : Kp2 Bn Bs W (W.putObj l o') := by
  intro b _ _ hv
  have hne : b ≠ l := by
    rintro rfl
    cases o <;> simp_all [World.cell?, Obj.isCells]
  exact (cell_kept hv (grownBy_putObj' W l o') (fun r e => by cases e; exact ⟨o, h, hc⟩))
theorem kp2_below {Bn Bs : Nat} {W W' : World} (h : Below W.heap.size W W') : Kp2 Bn Bs W W' := fun b _ _ hv => (h.cell (p := ⟨b, 0, none⟩) (World.block_lt_of_cell? W _ hv)).trans hv

/-- What points hands back, as the loops' law asks it. -/
theorem points_stops (m kk : Nat) (n : Int) (h1 : 1 ≤ n) (h5 : n ≤ 5) (s : ByteArray) (Bn Bs fuel : Nat) (xs : List (Int × Int)) (hm : 1 ≤ m) (hs : s.size ≤ 140737488351232)
    (hx : seqF (nxF kk n) s fuel 0 = some xs) (w : World) (hBn : w.cell? ⟨Bn, 0, none⟩ = some (.int .i64 n)) (hBs : w.cell? ⟨Bs, 0, none⟩ = some (.string s)) :
    SeqStopsK Fence.wide m Tryd.prog 44 #[.pointer (some ⟨Bn, 0, none⟩), .pointer (some ⟨Bs, 0, none⟩)] (fun x : Int × Int => #[Value.int .i64 x.1, Value.int .i64 x.2]) (Kp2 Bn Bs) (fun ys => ys = xs) (fun pre => pre <+: xs) xs.length w := fun l J Jx W hW hJ _ hY h0 =>
  points1_in m kk n h1 h5 s l Bn Bs fuel xs hm J Jx hs hx (fun pre A B hj hb => hJ pre A B none hj (grown_of_below hb none) (fun r e => by cases e)) hY W
    ((hW.cell (p := ⟨Bn, 0, none⟩) (World.block_lt_of_cell? w _ hBn)).trans hBn) ((hW.cell (p := ⟨Bs, 0, none⟩) (World.block_lt_of_cell? w _ hBs)).trans hBs) h0

set_option maxHeartbeats 1000000 in
theorem points_calls (n : Int) (s : ByteArray) (w : World) :
    Calls Tryd.prog 36 #[.int .i64 n, .string s] w fun e w' => e = .returned (.func (.func 44) #[] #[.pointer (some ⟨w.heap.size, 0, none⟩), .pointer (some ⟨w.heap.size + 1, 0, none⟩)]) ∧ w' = (w.alloc (.cells #[.int .i64 n] 3)).alloc (.cells #[.string s] 9) := by
  go_enter Tryd.func36, Tryd.ntmps36
  go_wp2
  go_ret
  exact ⟨rfl, rfl⟩

end Go.Proofs.YtphjfhglapkmhaaDoor.P
