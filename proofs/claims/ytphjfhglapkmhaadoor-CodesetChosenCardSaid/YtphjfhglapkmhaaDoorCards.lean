/-
  DERIVED. GIVEN WITH THE SEED: THE CARDS: each row of YtphjfhglapkmhaaDoorRows.lean that lists a variable, with what it lists TIED to the program's text (the seventh form; the later family's looks); each row that meets fmt, with fmt's text TOLD by the authors' own Lean function (tested against real Go, not proved from fmt's source: count such statements apart). THE CARD IS WHAT COUNTS. Prove the row's statement (the work); the ties are given (YtphjfhglapkmhaaDoorTie.lean); close each card by the builder's one call (the guide's Derived/Test/ToyasCard.lean, 'card_holds'). Laid BY PROGRAM, IN A SANDBOX (cutbox-door.mjs). By AI agents, Wed Nov 11 2026. No macro, syntax, notation, axiom, sorry.
-/
import Derived.Test.YtphjfhglapkmhaaDoorRows
import GoSem.ClaimSeven
namespace Go.Proofs.YtphjfhglapkmhaaDoor
namespace Rows

/-- THE TIED CARD OF 'intermedelaw12.CodesetParses'. -/
def codesetParsesCard : Claim7 := { stood := { row := codesetParsesRow, standIns := [], harness := (true, "b259492463b7474b0b0bf81ccd3b12b50f7f7e0df54445d1fdbbe9c2308a9ea7"), looks := false }, kinds := [], alts := [], laidByText := true, laidKinds := [.data, .pinned], laidTests := true, laidLooks := .later }
def CodesetParsesCardSaid : Prop := Claim7.holds Tryd.pinned (.plain (OpenSpec.ofChange codesetParsesSpec)) codesetParsesCard

/-- THE TIED CARD OF 'intermedelaw12.CodesetChosen'. -/
def codesetChosenCard : Claim7 := { stood := { row := codesetChosenRow, standIns := [], harness := (true, "b259492463b7474b0b0bf81ccd3b12b50f7f7e0df54445d1fdbbe9c2308a9ea7"), looks := false }, kinds := [], alts := [], laidByText := true, laidKinds := [.data, .pinned], laidTests := true, laidLooks := .later }
def CodesetChosenCardSaid : Prop := Claim7.holds Tryd.pinned (.plain (OpenSpec.ofChange codesetChosenSpec)) codesetChosenCard

/-- THE SECOND FORM's CARD OF 'intermedelaw12.CodesetParses'. -/
def codesetParsesUptoCard : Claim7 := { stood := { row := codesetParsesUptoRow, standIns := [], harness := (true, "b259492463b7474b0b0bf81ccd3b12b50f7f7e0df54445d1fdbbe9c2308a9ea7"), looks := false }, kinds := [], alts := [], laidByText := true, laidKinds := [.data, .pinned], laidTests := true, laidLooks := .later }
def CodesetParsesUptoCardSaid : Prop := Claim7.holds Tryd.pinned (.plain (OpenSpec.upto codesetParsesSpec)) codesetParsesUptoCard

/-- THE SECOND FORM's CARD OF 'intermedelaw12.CodesetChosen'. -/
def codesetChosenUptoCard : Claim7 := { stood := { row := codesetChosenUptoRow, standIns := [], harness := (true, "b259492463b7474b0b0bf81ccd3b12b50f7f7e0df54445d1fdbbe9c2308a9ea7"), looks := false }, kinds := [], alts := [], laidByText := true, laidKinds := [.data, .pinned], laidTests := true, laidLooks := .later }
def CodesetChosenUptoCardSaid : Prop := Claim7.holds Tryd.pinned (.plain (OpenSpec.upto codesetChosenSpec)) codesetChosenUptoCard
end Rows
end Go.Proofs.YtphjfhglapkmhaaDoor
