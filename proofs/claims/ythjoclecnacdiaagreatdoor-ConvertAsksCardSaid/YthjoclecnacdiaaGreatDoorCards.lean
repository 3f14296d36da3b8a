/-
  DERIVED. GIVEN WITH THE SEED: THE CARDS: each row of YthjoclecnacdiaaGreatDoorRows.lean that lists a variable, with what it lists TIED to the program's text (the seventh form; the later family's looks); each row that meets fmt, with fmt's text TOLD by the authors' own Lean function (tested against real Go, not proved from fmt's source: count such statements apart). THE CARD IS WHAT COUNTS. Prove the row's statement (the work); the ties are given (YthjoclecnacdiaaGreatDoorTie.lean); close each card by the builder's one call (the guide's Derived/Test/ToyasCard.lean, 'card_holds'). Laid BY PROGRAM, IN A SANDBOX (cutbox-door.mjs). By AI agents, Wed Nov 11 2026. No macro, syntax, notation, axiom, sorry.
-/
import Derived.Test.YthjoclecnacdiaaGreatDoorRows
import GoSem.ClaimSeven
namespace Go.Proofs.YthjoclecnacdiaaGreatDoor
namespace Rows

/-- THE TIED CARD OF 'rovinglaw28.ConvertAsks'. -/
def convertAsksCard : Claim7 := { stood := { row := convertAsksRow, standIns := [], harness := (true, "bcd180a05c98853a3ca3d8d2f87392f9177ca32fb7a41869c81b2157320607dc"), looks := true }, kinds := [], alts := [], laidByText := true, laidKinds := [.data, .data, .data, .handle], laidTests := true, laidLooks := .later }
def ConvertAsksCardSaid : Prop := Claim7.holds Tryz.pinned (.plain (OpenSpec.ofChange convertAsksSpec)) convertAsksCard

/-- THE SECOND FORM's CARD OF 'rovinglaw28.ConvertAsks'. -/
def convertAsksUptoCard : Claim7 := { stood := { row := convertAsksUptoRow, standIns := [], harness := (true, "bcd180a05c98853a3ca3d8d2f87392f9177ca32fb7a41869c81b2157320607dc"), looks := true }, kinds := [], alts := [], laidByText := true, laidKinds := [.data, .data, .data, .handle], laidTests := true, laidLooks := .later }
def ConvertAsksUptoCardSaid : Prop := Claim7.holds Tryz.pinned (.plain (OpenSpec.upto convertAsksSpec)) convertAsksUptoCard
end Rows
end Go.Proofs.YthjoclecnacdiaaGreatDoor
