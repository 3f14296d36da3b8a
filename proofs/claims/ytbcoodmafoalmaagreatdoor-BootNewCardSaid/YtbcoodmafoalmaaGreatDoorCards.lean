/-
  DERIVED. GIVEN WITH THE SEED: THE CARDS: each row of YtbcoodmafoalmaaGreatDoorRows.lean that lists a variable, with what it lists TIED to the program's text (the seventh form; the later family's looks); each row that meets fmt, with fmt's text TOLD by the authors' own Lean function (tested against real Go, not proved from fmt's source: count such statements apart). THE CARD IS WHAT COUNTS. Prove the row's statement (the work); the ties are given (YtbcoodmafoalmaaGreatDoorTie.lean); close each card by the builder's one call (the guide's Derived/Test/ToyasCard.lean, 'card_holds'). Laid BY PROGRAM, IN A SANDBOX (cutbox-door.mjs). By AI agents, Wed Nov 11 2026. No macro, syntax, notation, axiom, sorry.
-/
import Derived.Test.YtbcoodmafoalmaaGreatDoorRows
import GoSem.ClaimSeven
namespace Go.Proofs.YtbcoodmafoalmaaGreatDoor
namespace Rows

/-- THE TIED CARD OF 'rovinglaw25.BootNew'. -/
def bootNewCard : Claim7 := { stood := { row := bootNewRow, standIns := [], harness := (true, "cca1c0570867bd5713f501568728ecf59d5ddaba5f8350caf89ab399228c27ea"), looks := true }, kinds := [], alts := [], laidByText := true, laidKinds := [.data, .data, .data, .handle], laidTests := true, laidLooks := .later }
def BootNewCardSaid : Prop := Claim7.holds Tryz.pinned (.plain (OpenSpec.ofChange bootNewSpec)) bootNewCard

/-- THE SECOND FORM's CARD OF 'rovinglaw25.BootNew'. -/
def bootNewUptoCard : Claim7 := { stood := { row := bootNewUptoRow, standIns := [], harness := (true, "cca1c0570867bd5713f501568728ecf59d5ddaba5f8350caf89ab399228c27ea"), looks := true }, kinds := [], alts := [], laidByText := true, laidKinds := [.data, .data, .data, .handle], laidTests := true, laidLooks := .later }
def BootNewUptoCardSaid : Prop := Claim7.holds Tryz.pinned (.plain (OpenSpec.upto bootNewSpec)) bootNewUptoCard
end Rows
end Go.Proofs.YtbcoodmafoalmaaGreatDoor
