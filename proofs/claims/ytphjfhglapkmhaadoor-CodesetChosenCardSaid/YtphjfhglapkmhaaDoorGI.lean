/- It is proved how codeset.points goes through a text. No condition beyond the lemmas' own. -/
import Derived.RangeFuncNested
import Derived.RangeFuncBound
import Derived.RangeFuncCalls
import Derived.RangeFuncLeaves
import Derived.Shelf.Abstract
import Derived.Stop.RegionWithIn
import Derived.Outline
import Derived.WalkKit
import Derived.OwnWalkIn
import Derived.TacticsInMore
import Derived.LoopNIn
import Derived.LoopIn
import Derived.Test.YtphjfhglapkmhaaDoorSpec
namespace Go.Proofs.YtphjfhglapkmhaaDoor.P
open Go.Shelf Go.RowKit Go.Proofs.YtphjfhglapkmhaaDoorW.PrintWords Go.Proofs.YtphjfhglapkmhaaDoorW.PrintLast Go.Proofs.YtphjfhglapkmhaaDoorW.PrintMore
attribute [local go_sem] Oper.semAt_some

set_option maxRecDepth 100000 in
theorem nN {n : Int} (h1 : 1 ≤ n) (h5 : n ≤ 5) : ∀ w, (nilAhead 234 (tyV n) (agV n) "intermede/codeset.next").run Tryd.prog w = .ok (some false) w := by
  rcases five h1 h5 with rfl | rfl | rfl | rfl | rfl <;> exact fun _ => by kernel_rfl

/-- What a round keeps: the two boxes that the iterator reads. -/
def Kp2 (Bn Bs : Nat) (W W' : World) : Prop := ∀ b v, (b = Bn ∨ b = Bs) → W.cell? ⟨b, 0, none⟩ = some v → W'.cell? ⟨b, 0, none⟩ = some v

set_option maxRecDepth 100000 in
set_option maxHeartbeats 2000000 in
theorem points1_in (m : Nat) (kk : Nat) (n : Int) (h1 : 1 ≤ n) (h5 : n ≤ 5) (s : ByteArray) (l Bn Bs : Nat) (fuel : Nat) (xs : List (Int × Int)) (hm : 1 ≤ m) (J Jx : List (Int × Int) → World → Prop) (hs : s.size ≤ 140737488351232)
    (hx : seqF (nxF kk n) s fuel 0 = some xs)
    (hJd : ∀ pre W W', J pre W → Below W.heap.size W W' → J pre W')
    (hY : ∀ pre x W, J pre W → pre.length < xs.length → YieldAt Fence.wide (m - 1) Tryd.prog l #[.int .i64 x.1, .int .i64 x.2] W fun e W' =>
      (e = .returned (.bool true) ∧ J (pre ++ [x]) W' ∧ Kp2 Bn Bs W W') ∨ (e = .returned (.bool false) ∧ Jx (pre ++ [x]) W'))
    (W : World) (hBn : W.cell? ⟨Bn, 0, none⟩ = some (.int .i64 n)) (hBs : W.cell? ⟨Bs, 0, none⟩ = some (.string s)) (h0 : J [] W) :
    CallsIn Fence.wide m Tryd.prog 44 #[.func (.yield l) #[] #[], .pointer (some ⟨Bn, 0, none⟩), .pointer (some ⟨Bs, 0, none⟩)] W fun e W' => (∃ v, e = .returned v) ∧
      ((∃ ys, ys = xs ∧ J ys W') ∨ (∃ pre, pre <+: xs ∧ Jx pre W')) := by
  have i0 := ix h1 h5
  have i1 := ixw h1 h5
  have m0 := mN h1 h5
  have e0 := eN h1 h5
  have n0 := nN h1 h5
  have hlt : Bn < W.heap.size := World.block_lt_of_cell? W _ hBn
  have hcA : ∀ o, (W.alloc o).drew.cell? ⟨Bn, 0, none⟩ = some (.int .i64 n) := fun o => (((Below.refl W.heap.size W).alloc (Nat.le_refl _) o).drew.cell (p := ⟨Bn, 0, none⟩) hlt).trans hBn
  have hcB : ∀ o, (W.alloc o).drew.cell? ⟨Bs, 0, none⟩ = some (.string s) := fun o => (((Below.refl W.heap.size W).alloc (Nat.le_refl _) o).drew.cell (p := ⟨Bs, 0, none⟩) (World.block_lt_of_cell? W _ hBs)).trans hBs
  have hJ0 : ∀ o, J [] (W.alloc o).drew := fun o => hJd [] W _ h0 ((Below.refl W.heap.size W).alloc (Nat.le_refl _) o).drew
  have HX0 := Aside0.mk hx
  clear hx
  refine callsIn_of_wp Tryd.func44 rfl trivial ?_ rfl
  simp only [Tryd.ntmps44, List.size_toArray, List.length_cons, List.length_nil, Nat.reduceAdd, Nat.reduceSub, Array.replicate_succ, Array.replicate_zero, List.push_toArray, List.append_toArray, List.nil_append, List.cons_append]
  gi_wp2
  gi_region_with (refine ⟨trivial, ?_⟩; gi_at_call 35; refine (callsIn_wide.2 (sets_calls _)).mono ?_; rintro e w' ⟨rfl, rfl⟩)
  all_goals (
    gi_wp2
    gi_loopw [5] (fun i wr => ∃ (k f' : Nat) (pre rest : List (Int × Int)), k ≤ s.size + 4 ∧ i = .int .i64 k ∧ Aside0 (seqF (nxF kk n) s f' k = some rest) ∧ Aside0 (pre ++ rest = xs) ∧ J pre wr ∧ wr.cell? ⟨Bs, 0, none⟩ = some (.string s) ∧ Aside0 (wr.cell? ⟨Bn, 0, none⟩ = some (.int .i64 n))) (fun i _ => s.size - (intOf i).toNat)
    case atStart => exact ⟨0, fuel, [], xs, Nat.zero_le _, rfl, HX0, ⟨rfl⟩, hJ0 _, hcB _, ⟨hcA _⟩⟩
    case round =>
      obtain ⟨k, f', pre, rest, hk, rfl, HS, HX, hJs, hcs, HN⟩ := hrel
      by_cases hlt : k < s.size
      · cases f' with
        | zero => exact absurd HS.out (by simp [seqF])
        | succ f' =>
          have hS := HS.out
          simp only [seqF] at hS
          rw [if_pos hlt] at hS
          obtain ⟨⟨p, sz⟩, hg, hS⟩ := Option.bind_eq_some_iff.mp hS
          have HG := Aside0.mk hg
          clear hg
          dsimp only at hS
          by_cases hz : sz = 0
          · subst hz
            rw [if_pos rfl] at hS
            obtain rfl := Option.some.inj hS
            have HL := Aside0.mk (show pre.length < xs.length by rw [← HX.out]; simp)
            clear hS
            gi_wp2
            gi_region_with (refine ⟨trivial, ?_⟩; refine (callsIn_wide.2 (next_calls kk h1 h5 _ p 0 _ HG)).mono ?_; rintro e w' ⟨rfl, hb⟩)
            all_goals (
              obtain ⟨fn, tmps, assign, body, hy, hR⟩ := hY pre ((k : Int), -1) w' (hJd pre wr w' hJs (((Below.refl _ wr).drew).trans hb)) HL.out
              dsimp only at hy
              clear hb
              gi_wp2
              refine hR.mono ?_
              rintro e W3 (⟨rfl, hJ3, hk3⟩ | ⟨rfl, hJx3⟩)
              · gi_wp2
                refine bodyPost_ret (results_none rfl _ _ _) rfl ?_
                exact ⟨⟨_, rfl⟩, .inl ⟨_, HX.out, hJ3⟩⟩
              · gi_wp2
                refine bodyPost_ret (results_none rfl _ _ _) rfl ?_
                exact ⟨⟨_, rfl⟩, .inr ⟨_, ⟨[], by rw [List.append_nil]; exact HX.out⟩, hJx3⟩⟩)
          · rw [if_neg hz] at hS
            by_cases hsz : 1 ≤ sz ∧ sz ≤ 4
            · rw [if_pos hsz] at hS
              obtain ⟨rest', hS', hS⟩ := Option.bind_eq_some_iff.mp hS
              obtain rfl := Option.some.inj hS
              have HS' := Aside0.mk hS'
              have HL := Aside0.mk (show pre.length < xs.length by rw [← HX.out]; simp)
              obtain ⟨z1, z4⟩ := hsz
              have hz0 : (sz == 0) = false := by simpa using hz
              clear hS hS' hz
              gi_wp2
              gi_region_with (refine ⟨trivial, ?_⟩; refine (callsIn_wide.2 (next_calls kk h1 h5 _ p sz _ HG)).mono ?_; rintro e w' ⟨rfl, hb⟩)
              all_goals (
                have hb' : Below wr.heap.size wr w' := ((Below.refl _ wr).drew).trans hb
                obtain ⟨fn, tmps, assign, body, hy, hR⟩ := hY pre ((k : Int), p) w' (hJd pre wr w' hJs hb') HL.out
                have HK1 := Aside0.mk ((hb'.cell (p := ⟨Bs, 0, none⟩) (World.block_lt_of_cell? wr _ hcs)).trans hcs)
                have HK2 := Aside0.mk ((hb'.cell (p := ⟨Bn, 0, none⟩) (World.block_lt_of_cell? wr _ HN.out)).trans HN.out)
                dsimp only at hy
                clear hb hb'
                gi_wp2
                refine hR.mono ?_
                rintro e W3 (⟨rfl, hJ3, hk3⟩ | ⟨rfl, hJx3⟩)
                · have HK3 := Aside0.mk hk3
                  clear hk3
                  gi_wp2
                  go_roundw
                  case rel => exact ⟨k + sz.toNat, f', pre ++ [((k : Int), p)], rest', by omega, by congr 1; omega, HS', ⟨by rw [List.append_assoc]; exact HX.out⟩, hJ3, HK3.out _ _ (.inr rfl) HK1.out, ⟨HK3.out _ _ (.inl rfl) HK2.out⟩⟩
                  case measure => simp [intOf]; omega
                · gi_wp2
                  refine bodyPost_ret (results_none rfl _ _ _) rfl ?_
                  exact ⟨⟨_, rfl⟩, .inr ⟨_, ⟨rest', by rw [List.append_assoc]; exact HX.out⟩, hJx3⟩⟩)
            · rw [if_neg hsz] at hS
              exact absurd hS (by simp)
      · cases f' with
        | zero => exact absurd HS.out (by simp [seqF])
        | succ f' =>
          have hS := HS.out
          simp only [seqF] at hS
          rw [if_neg hlt] at hS
          obtain rfl := Option.some.inj hS
          clear hS
          gi_wp2
          go_end0
          exact ⟨⟨_, rfl⟩, .inl ⟨pre, by rw [← HX.out, List.append_nil], hJs⟩⟩)

end Go.Proofs.YtphjfhglapkmhaaDoor.P
