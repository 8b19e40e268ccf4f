-- WRITTEN BY wip/tools/gprint.py, a program of this repo, for this claim.
import Derived.Test.YteioboechlnogaaProg
import Derived.Below
import Derived.Deep.Draws
import Derived.Deep.AppendLies
import Derived.Maps.AppendAt
import Derived.OwnWalk
import Derived.Laws.BytesArg
import Derived.Laws.MakeOwn
import Derived.Laws.OwnMore
import Derived.Deep.OwnRows
import Derived.Tactics
import Derived.Lib.ConvBytes
import Derived.Laws.Slices
import Derived.WalkKit
import Derived.KernelRfl
import Derived.RowKit3
import Derived.Deep.LoopGhost
import Derived.Deep.QuietTactic
import Derived.BigQuiet
import Derived.WideLaws
import Derived.Deep.DeepCutAuto
import Derived.Deep.CutBlock
import Derived.Deep.RegionHeld3
import Derived.Laws.Rows
import Derived.Lib.AppendStr
import Derived.ArgAppend
import Derived.Laws.IdiomCopy
import Derived.OrdersHeld
import Derived.Laws.BitsLemmas
import Derived.RowKit
import Derived.Test.YteioboechlnogaaWWords
import Derived.Test.YteioboechlnogaaWLast
import Derived.Test.YteioboechlnogaaWTab
import Derived.Test.YteioboechlnogaaWFour
import Derived.Test.YteioboechlnogaaWQPut
import Derived.Test.YteioboechlnogaaWApart
import Derived.Test.YteioboechlnogaaWArr
import Derived.Test.YteioboechlnogaaWZeros
import Derived.Test.YteioboechlnogaaWFoot
import Derived.Test.YteioboechlnogaaWKept
import Derived.Test.YteioboechlnogaaWShare
import Derived.Test.YteioboechlnogaaWN
import Derived.Test.YteioboechlnogaaWFootNe
import Derived.Test.YteioboechlnogaaWAt
import Derived.Test.YteioboechlnogaaWEqStruct
import Derived.Test.YteioboechlnogaaWRepsOne
import Derived.Test.YteioboechlnogaaWInv
import Derived.Test.YteioboechlnogaaWInvWords
import Derived.Test.YteioboechlnogaaWGuard
import Derived.Test.YteioboechlnogaaWNEv
import Derived.Test.YteioboechlnogaaWMore
namespace Go.Proofs.Yteioboechlnogaa.P
open Go.RowKit Go.Proofs.YteioboechlnogaaW.PrintWords Go.Proofs.YteioboechlnogaaW.PrintLast Go.Proofs.YteioboechlnogaaW.PrintMore
attribute [local go_sem] max2_int min2_int max_two min_two max_three min_three max_four min_four   -- for this text's walks alone
set_option linter.unusedVariables false
set_option linter.unusedSimpArgs false



def errW : Option Int → Value
  | none => .nilIface
  | some c => .iface 0 (.int .i64 c)
theorem errW_none : errW none = .nilIface := rfl
theorem errW_some (c : Int) : errW (some c) = .iface 0 (.int .i64 c) := rfl

theorem info3 : (Try.prog.info? 3).map (fun i => (i.zero, i.size, i.bytes)) = some (some (.int .i64 0), 1, 8) := by kernel_rfl
theorem info5 : (Try.prog.info? 5).map (fun i => (i.zero, i.size, i.bytes)) = some (some (.int .u8 0), 1, 1) := by kernel_rfl
theorem info9 : (Try.prog.info? 9).map (fun i => (i.zero, i.size, i.bytes)) = some (some (.string ⟨#[]⟩), 1, 16) := by kernel_rfl
-- the values' own types

end Go.Proofs.Yteioboechlnogaa.P
