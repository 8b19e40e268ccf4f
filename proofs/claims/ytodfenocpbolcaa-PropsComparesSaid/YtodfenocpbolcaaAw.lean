/- It is proved that the law's own example answers true. No condition. -/
import Derived.Test.YtodfenocpbolcaaLH
set_option maxRecDepth 100000
namespace Go.Proofs.Ytodfenocpbolcaa.E
open Go
def isTrue : Option Out → Bool | some (.ret [.bool true] _) => true | _ => false
theorem isTrue_s {x : Option Out} (h : isTrue x = true) : ∃ s, x = some (.ret [.bool true] s) := by
  unfold isTrue at h
  split at h
  · exact ⟨_, rfl⟩
  · cases h
theorem awake_fuel : isTrue (call Try.prog HH GG 60 5 [] []) = true := by kernel_rfl
theorem awake_run : ∃ s, RUN 5 [] [] = some (.ret [.bool true] s) := by
  obtain ⟨s, h⟩ := isTrue_s awake_fuel
  exact ⟨s, run_fuel h⟩
end Go.Proofs.Ytodfenocpbolcaa.E
