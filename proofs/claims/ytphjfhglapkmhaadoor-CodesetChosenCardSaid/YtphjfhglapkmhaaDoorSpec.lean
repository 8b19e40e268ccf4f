/- What Convert computes, in plain Lean. No condition. -/
import Derived.Test.YtphjfhglapkmhaaDoorGS
namespace Go.Proofs.YtphjfhglapkmhaaDoor.P
open Go.Shelf Go.RowKit Go.Proofs.YtphjfhglapkmhaaDoorW.PrintWords Go.Proofs.YtphjfhglapkmhaaDoorW.PrintLast Go.Proofs.YtphjfhglapkmhaaDoorW.PrintMore

/-- What a text's points come to, written one behind the other: the bytes; whether each could be written. -/
def textF (g : Int → Option (ByteArray × Bool)) : List Int → List UInt8 → Option (List UInt8 × Bool)
  | [], acc => some (acc, true)
  | p :: l, acc => (g p).bind fun r => if r.2 = true then (if p < 0 then some (acc, false) else if acc.length + r.1.size ≤ 140737488355328 then textF g l (acc ++ r.1.data.toList) else none) else some (acc, false)
def textEnd (x : List UInt8 × Bool) : Option (ByteArray × Int) := if x.2 = true then (if (x.1.length : Int) > 65536 then some (⟨#[]⟩, 4) else some (⟨x.1.toArray⟩, 0)) else some (⟨#[]⟩, 7)
def codeset_Text.f (n : Int) (l : List Int) : Option (ByteArray × Int) :=
  if 1 ≤ n ∧ n ≤ 5 then (if (l.length : Int) > 65536 then some (⟨#[]⟩, 3) else (textF (wrF n) l []).bind textEnd) else some (⟨#[]⟩, 1)

/-- The places and points of a text from a place on; a point of -1 stands for what is wrong, and ends it. -/
def seqF (g : ByteArray → Option (Int × Int)) (s : ByteArray) : Nat → Nat → Option (List (Int × Int))
  | 0, _ => none
  | k + 1, at_ => if at_ < s.size then (g (s.extract at_ s.size)).bind fun r => if r.2 = 0 then some [((at_ : Int), -1)] else if 1 ≤ r.2 ∧ r.2 ≤ 4 then (seqF g s k (at_ + r.2.toNat)).bind fun xs => some (((at_ : Int), r.1) :: xs) else none else some []

end Go.Proofs.YtphjfhglapkmhaaDoor.P
