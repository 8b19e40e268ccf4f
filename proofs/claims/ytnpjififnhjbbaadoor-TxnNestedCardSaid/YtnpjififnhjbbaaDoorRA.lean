/- It is proved of TxnNested's runs at a depth from 1 to 8 that each answers true. No condition. -/
import Derived.Test.YtnpjififnhjbbaaDoorZE
set_option maxRecDepth 100000
namespace Go.Proofs.YtnpjififnhjbbaaDoor.E
open Go
def okR : R → Bool | some (.ret [.bool true] _) => true | _ => false
noncomputable def TN (d g : Int) : R := (EE 400).f3.b d g
theorem t1_0 : okR (TN (Int.ofNat 1) (Int.ofNat 0)) = true := by kernel_rfl
theorem t1_1 : okR (TN (Int.ofNat 1) (Int.ofNat 1)) = true := by kernel_rfl
theorem t1_2 : okR (TN (Int.ofNat 1) (Int.ofNat 2)) = true := by kernel_rfl
theorem t1_3 : okR (TN (Int.ofNat 1) (Int.ofNat 3)) = true := by kernel_rfl
theorem t1_4 : okR (TN (Int.ofNat 1) (Int.ofNat 4)) = true := by kernel_rfl
theorem t1_5 : okR (TN (Int.ofNat 1) (Int.ofNat 5)) = true := by kernel_rfl
theorem t1_6 : okR (TN (Int.ofNat 1) (Int.ofNat 6)) = true := by kernel_rfl
theorem t1_7 : okR (TN (Int.ofNat 1) (Int.ofNat 7)) = true := by kernel_rfl
theorem t1_8 : okR (TN (Int.ofNat 1) (Int.ofNat 8)) = true := by kernel_rfl
theorem t1_p (n : Nat) : okR (TN (Int.ofNat 1) (Int.ofNat (n + 9))) = true := by kernel_rfl
theorem t1_n (n : Nat) : okR (TN (Int.ofNat 1) (Int.negSucc n)) = true := by kernel_rfl
theorem t2_0 : okR (TN (Int.ofNat 2) (Int.ofNat 0)) = true := by kernel_rfl
theorem t2_1 : okR (TN (Int.ofNat 2) (Int.ofNat 1)) = true := by kernel_rfl
theorem t2_2 : okR (TN (Int.ofNat 2) (Int.ofNat 2)) = true := by kernel_rfl
theorem t2_3 : okR (TN (Int.ofNat 2) (Int.ofNat 3)) = true := by kernel_rfl
theorem t2_4 : okR (TN (Int.ofNat 2) (Int.ofNat 4)) = true := by kernel_rfl
theorem t2_5 : okR (TN (Int.ofNat 2) (Int.ofNat 5)) = true := by kernel_rfl
theorem t2_6 : okR (TN (Int.ofNat 2) (Int.ofNat 6)) = true := by kernel_rfl
theorem t2_7 : okR (TN (Int.ofNat 2) (Int.ofNat 7)) = true := by kernel_rfl
theorem t2_8 : okR (TN (Int.ofNat 2) (Int.ofNat 8)) = true := by kernel_rfl
theorem t2_p (n : Nat) : okR (TN (Int.ofNat 2) (Int.ofNat (n + 9))) = true := by kernel_rfl
theorem t2_n (n : Nat) : okR (TN (Int.ofNat 2) (Int.negSucc n)) = true := by kernel_rfl
theorem t3_0 : okR (TN (Int.ofNat 3) (Int.ofNat 0)) = true := by kernel_rfl
theorem t3_1 : okR (TN (Int.ofNat 3) (Int.ofNat 1)) = true := by kernel_rfl
theorem t3_2 : okR (TN (Int.ofNat 3) (Int.ofNat 2)) = true := by kernel_rfl
theorem t3_3 : okR (TN (Int.ofNat 3) (Int.ofNat 3)) = true := by kernel_rfl
theorem t3_4 : okR (TN (Int.ofNat 3) (Int.ofNat 4)) = true := by kernel_rfl
theorem t3_5 : okR (TN (Int.ofNat 3) (Int.ofNat 5)) = true := by kernel_rfl
theorem t3_6 : okR (TN (Int.ofNat 3) (Int.ofNat 6)) = true := by kernel_rfl
theorem t3_7 : okR (TN (Int.ofNat 3) (Int.ofNat 7)) = true := by kernel_rfl
theorem t3_8 : okR (TN (Int.ofNat 3) (Int.ofNat 8)) = true := by kernel_rfl
theorem t3_p (n : Nat) : okR (TN (Int.ofNat 3) (Int.ofNat (n + 9))) = true := by kernel_rfl
theorem t3_n (n : Nat) : okR (TN (Int.ofNat 3) (Int.negSucc n)) = true := by kernel_rfl
theorem t4_0 : okR (TN (Int.ofNat 4) (Int.ofNat 0)) = true := by kernel_rfl
theorem t4_1 : okR (TN (Int.ofNat 4) (Int.ofNat 1)) = true := by kernel_rfl
theorem t4_2 : okR (TN (Int.ofNat 4) (Int.ofNat 2)) = true := by kernel_rfl
theorem t4_3 : okR (TN (Int.ofNat 4) (Int.ofNat 3)) = true := by kernel_rfl
theorem t4_4 : okR (TN (Int.ofNat 4) (Int.ofNat 4)) = true := by kernel_rfl
theorem t4_5 : okR (TN (Int.ofNat 4) (Int.ofNat 5)) = true := by kernel_rfl
theorem t4_6 : okR (TN (Int.ofNat 4) (Int.ofNat 6)) = true := by kernel_rfl
theorem t4_7 : okR (TN (Int.ofNat 4) (Int.ofNat 7)) = true := by kernel_rfl
theorem t4_8 : okR (TN (Int.ofNat 4) (Int.ofNat 8)) = true := by kernel_rfl
theorem t4_p (n : Nat) : okR (TN (Int.ofNat 4) (Int.ofNat (n + 9))) = true := by kernel_rfl
theorem t4_n (n : Nat) : okR (TN (Int.ofNat 4) (Int.negSucc n)) = true := by kernel_rfl
theorem t5_0 : okR (TN (Int.ofNat 5) (Int.ofNat 0)) = true := by kernel_rfl
theorem t5_1 : okR (TN (Int.ofNat 5) (Int.ofNat 1)) = true := by kernel_rfl
theorem t5_2 : okR (TN (Int.ofNat 5) (Int.ofNat 2)) = true := by kernel_rfl
theorem t5_3 : okR (TN (Int.ofNat 5) (Int.ofNat 3)) = true := by kernel_rfl
theorem t5_4 : okR (TN (Int.ofNat 5) (Int.ofNat 4)) = true := by kernel_rfl
theorem t5_5 : okR (TN (Int.ofNat 5) (Int.ofNat 5)) = true := by kernel_rfl
theorem t5_6 : okR (TN (Int.ofNat 5) (Int.ofNat 6)) = true := by kernel_rfl
theorem t5_7 : okR (TN (Int.ofNat 5) (Int.ofNat 7)) = true := by kernel_rfl
theorem t5_8 : okR (TN (Int.ofNat 5) (Int.ofNat 8)) = true := by kernel_rfl
theorem t5_p (n : Nat) : okR (TN (Int.ofNat 5) (Int.ofNat (n + 9))) = true := by kernel_rfl
theorem t5_n (n : Nat) : okR (TN (Int.ofNat 5) (Int.negSucc n)) = true := by kernel_rfl
theorem t6_0 : okR (TN (Int.ofNat 6) (Int.ofNat 0)) = true := by kernel_rfl
theorem t6_1 : okR (TN (Int.ofNat 6) (Int.ofNat 1)) = true := by kernel_rfl
theorem t6_2 : okR (TN (Int.ofNat 6) (Int.ofNat 2)) = true := by kernel_rfl
theorem t6_3 : okR (TN (Int.ofNat 6) (Int.ofNat 3)) = true := by kernel_rfl
theorem t6_4 : okR (TN (Int.ofNat 6) (Int.ofNat 4)) = true := by kernel_rfl
theorem t6_5 : okR (TN (Int.ofNat 6) (Int.ofNat 5)) = true := by kernel_rfl
theorem t6_6 : okR (TN (Int.ofNat 6) (Int.ofNat 6)) = true := by kernel_rfl
theorem t6_7 : okR (TN (Int.ofNat 6) (Int.ofNat 7)) = true := by kernel_rfl
theorem t6_8 : okR (TN (Int.ofNat 6) (Int.ofNat 8)) = true := by kernel_rfl
theorem t6_p (n : Nat) : okR (TN (Int.ofNat 6) (Int.ofNat (n + 9))) = true := by kernel_rfl
theorem t6_n (n : Nat) : okR (TN (Int.ofNat 6) (Int.negSucc n)) = true := by kernel_rfl
theorem t7_0 : okR (TN (Int.ofNat 7) (Int.ofNat 0)) = true := by kernel_rfl
theorem t7_1 : okR (TN (Int.ofNat 7) (Int.ofNat 1)) = true := by kernel_rfl
theorem t7_2 : okR (TN (Int.ofNat 7) (Int.ofNat 2)) = true := by kernel_rfl
theorem t7_3 : okR (TN (Int.ofNat 7) (Int.ofNat 3)) = true := by kernel_rfl
theorem t7_4 : okR (TN (Int.ofNat 7) (Int.ofNat 4)) = true := by kernel_rfl
theorem t7_5 : okR (TN (Int.ofNat 7) (Int.ofNat 5)) = true := by kernel_rfl
theorem t7_6 : okR (TN (Int.ofNat 7) (Int.ofNat 6)) = true := by kernel_rfl
theorem t7_7 : okR (TN (Int.ofNat 7) (Int.ofNat 7)) = true := by kernel_rfl
theorem t7_8 : okR (TN (Int.ofNat 7) (Int.ofNat 8)) = true := by kernel_rfl
theorem t7_p (n : Nat) : okR (TN (Int.ofNat 7) (Int.ofNat (n + 9))) = true := by kernel_rfl
theorem t7_n (n : Nat) : okR (TN (Int.ofNat 7) (Int.negSucc n)) = true := by kernel_rfl
theorem t8_0 : okR (TN (Int.ofNat 8) (Int.ofNat 0)) = true := by kernel_rfl
theorem t8_1 : okR (TN (Int.ofNat 8) (Int.ofNat 1)) = true := by kernel_rfl
theorem t8_2 : okR (TN (Int.ofNat 8) (Int.ofNat 2)) = true := by kernel_rfl
theorem t8_3 : okR (TN (Int.ofNat 8) (Int.ofNat 3)) = true := by kernel_rfl
theorem t8_4 : okR (TN (Int.ofNat 8) (Int.ofNat 4)) = true := by kernel_rfl
theorem t8_5 : okR (TN (Int.ofNat 8) (Int.ofNat 5)) = true := by kernel_rfl
theorem t8_6 : okR (TN (Int.ofNat 8) (Int.ofNat 6)) = true := by kernel_rfl
theorem t8_7 : okR (TN (Int.ofNat 8) (Int.ofNat 7)) = true := by kernel_rfl
theorem t8_8 : okR (TN (Int.ofNat 8) (Int.ofNat 8)) = true := by kernel_rfl
theorem t8_p (n : Nat) : okR (TN (Int.ofNat 8) (Int.ofNat (n + 9))) = true := by kernel_rfl
theorem t8_n (n : Nat) : okR (TN (Int.ofNat 8) (Int.negSucc n)) = true := by kernel_rfl
end Go.Proofs.YtnpjififnhjbbaaDoor.E
