/-
  No cell of these rows narrows 'for every input' (looked for: loops, veiled, ifaces, maps, wideKeys, modest, calm, conditions, laid).
  DERIVED. THE GIVEN ROWS OF THIS SEAT. 4 by the template 'for every input the law returns true; each argument reads behind the call as it read before'; 0 by the template 'total and deterministic' (their statements: YteioboechlnogaaTotals.lean).
  GIVEN WITH THE SEED: the statements are not yours to turn. If you find one false, say at which input.
  Laid BY PROGRAM, IN A SANDBOX (cutbox-rows.mjs): the forced cells as the released guide's own fill.sh prints them over the translation 7c44220a3358cf8b… (all of the seat's roots in one cut). By AI agents, Wed Nov 11 2026. No macro, syntax, notation, axiom, sorry.
-/
import Derived.Test.YteioboechlnogaaChecked
import GoSem.Claim
import GoSem.ClaimJoined
import GoSem.ClaimMapViews
import Derived.JoinedTies
import Derived.KernelRfl
namespace Go.Proofs.Yteioboechlnogaa
/- THE CELL 'sum', in the pinned program and in every row, IS THE sha256 OF THE DUMP (.gsa) THAT YteioboechlnogaaProg.lean LOADS. Nothing in Lean hashes anything: it is a label: what it is worth is what the hold of that sum in a sandbox is worth. -/
noncomputable def Try.pinned : Pinned := { name := "yteioboechlnogaa", sum := "7c44220a3358cf8bfdf612f29a603f752c6820a0b07d568d52cc8795c9dc2be0", checked := Try.checked }
namespace Rows
def none {H : Type} : Left H := { results := [], args := [] }

/-- 'intermedelaw12.CodesetConverts': WHATEVER THE INPUT: true; the input reads as it did. -/
def codesetConvertsSpec : ChangeSpec := { name := "codesetConverts", fn := fun _ => fun
  | [d1, d2, d3] => { results := [.lit (.bool true)], args := [d1, d2, d3] }
  | _ => none }
def codesetConvertsRow : OpenClaim := { program := "yteioboechlnogaa", sum := "7c44220a3358cf8bfdf612f29a603f752c6820a0b07d568d52cc8795c9dc2be0", func := "intermede/intermedelaw12.CodesetConverts", spec := "codesetConverts", inPlace := ["internal/abi.NoEscape"], unfollowed := true, recurses := true, apart := false }
def CodesetConvertsSaid : Prop := codesetConvertsRow.holds Try.pinned (OpenSpec.ofChange codesetConvertsSpec)

/-- ITS FALSE NEIGHBOUR: 'it returns false'. Refute it at one input. -/
def codesetConvertsWrong : ChangeSpec := { name := "codesetConverts", fn := fun _ => fun
  | [d1, d2, d3] => { results := [.lit (.bool false)], args := [d1, d2, d3] }
  | _ => none }
def CodesetConvertsWrongFalsely : Prop := codesetConvertsRow.holds Try.pinned (OpenSpec.ofChange codesetConvertsWrong)

/-- 'intermedelaw12.CodesetCarries': WHATEVER THE INPUT: true; the input reads as it did. -/
def codesetCarriesSpec : ChangeSpec := { name := "codesetCarries", fn := fun _ => fun
  | [d1, d2, d3] => { results := [.lit (.bool true)], args := [d1, d2, d3] }
  | _ => none }
def codesetCarriesRow : OpenClaim := { program := "yteioboechlnogaa", sum := "7c44220a3358cf8bfdf612f29a603f752c6820a0b07d568d52cc8795c9dc2be0", func := "intermede/intermedelaw12.CodesetCarries", spec := "codesetCarries", inPlace := ["internal/abi.NoEscape"], unfollowed := true, recurses := true, apart := false }
def CodesetCarriesSaid : Prop := codesetCarriesRow.holds Try.pinned (OpenSpec.ofChange codesetCarriesSpec)

/-- ITS FALSE NEIGHBOUR: 'it returns false'. Refute it at one input. -/
def codesetCarriesWrong : ChangeSpec := { name := "codesetCarries", fn := fun _ => fun
  | [d1, d2, d3] => { results := [.lit (.bool false)], args := [d1, d2, d3] }
  | _ => none }
def CodesetCarriesWrongFalsely : Prop := codesetCarriesRow.holds Try.pinned (OpenSpec.ofChange codesetCarriesWrong)

/-- 'intermedelaw12.CodesetPoints': WHATEVER THE INPUT: true; the input reads as it did. -/
def codesetPointsSpec : ChangeSpec := { name := "codesetPoints", fn := fun _ => fun
  | [d1, d2] => { results := [.lit (.bool true)], args := [d1, d2] }
  | _ => none }
def codesetPointsRow : OpenClaim := { program := "yteioboechlnogaa", sum := "7c44220a3358cf8bfdf612f29a603f752c6820a0b07d568d52cc8795c9dc2be0", func := "intermede/intermedelaw12.CodesetPoints", spec := "codesetPoints", inPlace := ["internal/abi.NoEscape"], unfollowed := true, recurses := true, apart := false }
def CodesetPointsSaid : Prop := codesetPointsRow.holds Try.pinned (OpenSpec.ofChange codesetPointsSpec)

/-- ITS FALSE NEIGHBOUR: 'it returns false'. Refute it at one input. -/
def codesetPointsWrong : ChangeSpec := { name := "codesetPoints", fn := fun _ => fun
  | [d1, d2] => { results := [.lit (.bool false)], args := [d1, d2] }
  | _ => none }
def CodesetPointsWrongFalsely : Prop := codesetPointsRow.holds Try.pinned (OpenSpec.ofChange codesetPointsWrong)

/-- 'intermedelaw12.CodesetTexts': WHATEVER THE INPUT: true; the input reads as it did. -/
def codesetTextsSpec : ChangeSpec := { name := "codesetTexts", fn := fun _ => fun
  | [d1, d2] => { results := [.lit (.bool true)], args := [d1, d2] }
  | _ => none }
def codesetTextsRow : OpenClaim := { program := "yteioboechlnogaa", sum := "7c44220a3358cf8bfdf612f29a603f752c6820a0b07d568d52cc8795c9dc2be0", func := "intermede/intermedelaw12.CodesetTexts", spec := "codesetTexts", inPlace := ["internal/abi.NoEscape"], unfollowed := true, recurses := true, apart := false }
def CodesetTextsSaid : Prop := codesetTextsRow.holds Try.pinned (OpenSpec.ofChange codesetTextsSpec)

/-- ITS FALSE NEIGHBOUR: 'it returns false'. Refute it at one input. -/
def codesetTextsWrong : ChangeSpec := { name := "codesetTexts", fn := fun _ => fun
  | [d1, d2] => { results := [.lit (.bool false)], args := [d1, d2] }
  | _ => none }
def CodesetTextsWrongFalsely : Prop := codesetTextsRow.holds Try.pinned (OpenSpec.ofChange codesetTextsWrong)

/- THE SECOND FORM. 'bulk': how many values and letters a reading holds, each counted each time it is reached (what is shared counts as often as it is met; a slice's spare places count too). A statement '..UptoSaid' is the law's where the arguments, and the package variables that the reading takes, are together of bulk at most 1048576: NARROWER than '..Said'. Prove '..Said' where nothing that the law and all that it calls make is longer than what came in: it says more and counts as full. Else prove '..UptoSaid'. A law counts once. -/
mutual
def uptoBulk {H : Type} : DataW H → Nat
  | .lit (.string bytes) => bytes.length + 1
  | .lit _ => 1
  | .nil => 1
  | .ptr d => uptoBulk d + 1
  | .slice elems spare => uptoBulkAll elems + uptoBulkAll spare + 1
  | .agg parts => uptoBulkAll parts + 1
  | .iface _ d => uptoBulk d + 1
  | .map entries => uptoBulkEntries entries + 1
  | .held _ => 1
def uptoBulkAll {H : Type} : List (DataW H) → Nat
  | [] => 0
  | d :: r => uptoBulk d + uptoBulkAll r
def uptoBulkEntries {H : Type} : List (Lit × DataW H) → Nat
  | [] => 0
  | x :: r => uptoBulkEntry x + uptoBulkEntries r
def uptoBulkEntry {H : Type} : Lit × DataW H → Nat
  | (.string bytes, d) => bytes.length + uptoBulk d + 1
  | (_, d) => uptoBulk d + 1
 end
def uptoSmall : (H : Type) → List (DataW H) → Bool := fun _ ds => decide (uptoBulkAll ds ≤ 1048576)
def OpenSpec.upto (s : _root_.Go.ChangeSpec) : _root_.Go.OpenSpec := { _root_.Go.OpenSpec.ofChange s with cond := some uptoSmall }

/-- 'intermedelaw12.CodesetConverts', WHERE WHAT IT READS IS OF BULK AT MOST 1048576: true; the input reads as it did. -/
def codesetConvertsUptoRow : OpenClaim := { program := "yteioboechlnogaa", sum := "7c44220a3358cf8bfdf612f29a603f752c6820a0b07d568d52cc8795c9dc2be0", func := "intermede/intermedelaw12.CodesetConverts", spec := "codesetConverts", inPlace := ["internal/abi.NoEscape"], unfollowed := true, recurses := true, apart := false, narrowed := true }
def CodesetConvertsUptoSaid : Prop := codesetConvertsUptoRow.holds Try.pinned (OpenSpec.upto codesetConvertsSpec)

/-- 'intermedelaw12.CodesetCarries', WHERE WHAT IT READS IS OF BULK AT MOST 1048576: true; the input reads as it did. -/
def codesetCarriesUptoRow : OpenClaim := { program := "yteioboechlnogaa", sum := "7c44220a3358cf8bfdf612f29a603f752c6820a0b07d568d52cc8795c9dc2be0", func := "intermede/intermedelaw12.CodesetCarries", spec := "codesetCarries", inPlace := ["internal/abi.NoEscape"], unfollowed := true, recurses := true, apart := false, narrowed := true }
def CodesetCarriesUptoSaid : Prop := codesetCarriesUptoRow.holds Try.pinned (OpenSpec.upto codesetCarriesSpec)

/-- 'intermedelaw12.CodesetPoints', WHERE WHAT IT READS IS OF BULK AT MOST 1048576: true; the input reads as it did. -/
def codesetPointsUptoRow : OpenClaim := { program := "yteioboechlnogaa", sum := "7c44220a3358cf8bfdf612f29a603f752c6820a0b07d568d52cc8795c9dc2be0", func := "intermede/intermedelaw12.CodesetPoints", spec := "codesetPoints", inPlace := ["internal/abi.NoEscape"], unfollowed := true, recurses := true, apart := false, narrowed := true }
def CodesetPointsUptoSaid : Prop := codesetPointsUptoRow.holds Try.pinned (OpenSpec.upto codesetPointsSpec)

/-- 'intermedelaw12.CodesetTexts', WHERE WHAT IT READS IS OF BULK AT MOST 1048576: true; the input reads as it did. -/
def codesetTextsUptoRow : OpenClaim := { program := "yteioboechlnogaa", sum := "7c44220a3358cf8bfdf612f29a603f752c6820a0b07d568d52cc8795c9dc2be0", func := "intermede/intermedelaw12.CodesetTexts", spec := "codesetTexts", inPlace := ["internal/abi.NoEscape"], unfollowed := true, recurses := true, apart := false, narrowed := true }
def CodesetTextsUptoSaid : Prop := codesetTextsUptoRow.holds Try.pinned (OpenSpec.upto codesetTextsSpec)

end Rows
end Go.Proofs.Yteioboechlnogaa
