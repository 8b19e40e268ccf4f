/-
  DERIVED. GIVEN WITH THE SEED: THE CARDS: each row of YtnpjififnhjbbaaDoorRows.lean that lists a variable, with what it lists TIED to the program's text (the seventh form; the later family's looks); each row that meets fmt, with fmt's text TOLD by the authors' own Lean function (tested against real Go, not proved from fmt's source: count such statements apart). THE CARD IS WHAT COUNTS. Prove the row's statement (the work); the ties are given (YtnpjififnhjbbaaDoorTie.lean); close each card by the builder's one call (the guide's Derived/Test/ToyasCard.lean, 'card_holds'). Laid BY PROGRAM, IN A SANDBOX (cutbox-door.mjs). By AI agents, Wed Nov 11 2026. No macro, syntax, notation, axiom, sorry.
-/
import Derived.Test.YtnpjififnhjbbaaDoorRows
import GoSem.ClaimSeven
namespace Go.Proofs.YtnpjififnhjbbaaDoor
namespace Rows

/-- THE TIED CARD OF 'intermedelaw27.TxnNested'. -/
def txnNestedCard : Claim7 := { stood := { row := txnNestedRow, standIns := [], harness := (true, "9d08addb859d9ed6800553b0b8e1de678eccf8a2807840f39dfecfe287bac487"), looks := false }, kinds := [], alts := [], laidByText := true, laidKinds := [.data, .data, .data], laidTests := true, laidLooks := .later }
def TxnNestedCardSaid : Prop := Claim7.holds Tryd.pinned (.plain (OpenSpec.ofChange txnNestedSpec)) txnNestedCard

/-- THE TIED CARD OF 'intermedelaw27.TxnQueue'. -/
def txnQueueCard : Claim7 := { stood := { row := txnQueueRow, standIns := [], harness := (true, "9d08addb859d9ed6800553b0b8e1de678eccf8a2807840f39dfecfe287bac487"), looks := false }, kinds := [], alts := [], laidByText := true, laidKinds := [.data, .data, .data], laidTests := true, laidLooks := .later }
def TxnQueueCardSaid : Prop := Claim7.holds Tryd.pinned (.plain (OpenSpec.ofChange txnQueueSpec)) txnQueueCard

/-- THE TIED CARD OF 'intermedelaw27.TxnOrders'. -/
def txnOrdersCard : Claim7 := { stood := { row := txnOrdersRow, standIns := [], harness := (true, "9d08addb859d9ed6800553b0b8e1de678eccf8a2807840f39dfecfe287bac487"), looks := false }, kinds := [], alts := [], laidByText := true, laidKinds := [.data, .data, .data], laidTests := true, laidLooks := .later }
def TxnOrdersCardSaid : Prop := Claim7.holds Tryd.pinned (.plain (OpenSpec.ofChange txnOrdersSpec)) txnOrdersCard

/-- THE SECOND FORM's CARD OF 'intermedelaw27.TxnNested'. -/
def txnNestedUptoCard : Claim7 := { stood := { row := txnNestedUptoRow, standIns := [], harness := (true, "9d08addb859d9ed6800553b0b8e1de678eccf8a2807840f39dfecfe287bac487"), looks := false }, kinds := [], alts := [], laidByText := true, laidKinds := [.data, .data, .data], laidTests := true, laidLooks := .later }
def TxnNestedUptoCardSaid : Prop := Claim7.holds Tryd.pinned (.plain (OpenSpec.upto txnNestedSpec)) txnNestedUptoCard

/-- THE SECOND FORM's CARD OF 'intermedelaw27.TxnQueue'. -/
def txnQueueUptoCard : Claim7 := { stood := { row := txnQueueUptoRow, standIns := [], harness := (true, "9d08addb859d9ed6800553b0b8e1de678eccf8a2807840f39dfecfe287bac487"), looks := false }, kinds := [], alts := [], laidByText := true, laidKinds := [.data, .data, .data], laidTests := true, laidLooks := .later }
def TxnQueueUptoCardSaid : Prop := Claim7.holds Tryd.pinned (.plain (OpenSpec.upto txnQueueSpec)) txnQueueUptoCard

/-- THE SECOND FORM's CARD OF 'intermedelaw27.TxnOrders'. -/
def txnOrdersUptoCard : Claim7 := { stood := { row := txnOrdersUptoRow, standIns := [], harness := (true, "9d08addb859d9ed6800553b0b8e1de678eccf8a2807840f39dfecfe287bac487"), looks := false }, kinds := [], alts := [], laidByText := true, laidKinds := [.data, .data, .data], laidTests := true, laidLooks := .later }
def TxnOrdersUptoCardSaid : Prop := Claim7.holds Tryd.pinned (.plain (OpenSpec.upto txnOrdersSpec)) txnOrdersUptoCard
end Rows
end Go.Proofs.YtnpjififnhjbbaaDoor
