/-
  DERIVED. GIVEN WITH THE SEED: THE CARDS: each row of YtmohpcgmdheafaaGreatDoorRows.lean that lists a variable, with what it lists TIED to the program's text (the seventh form; the later family's looks); each row that meets fmt, with fmt's text TOLD by the authors' own Lean function (tested against real Go, not proved from fmt's source: count such statements apart). THE CARD IS WHAT COUNTS. Prove the row's statement (the work); the ties are given (YtmohpcgmdheafaaGreatDoorTie.lean); close each card by the builder's one call (the guide's Derived/Test/ToyasCard.lean, 'card_holds'). Laid BY PROGRAM, IN A SANDBOX (cutbox-door.mjs). By AI agents, Wed Nov 11 2026. No macro, syntax, notation, axiom, sorry.
-/
import Derived.Test.YtmohpcgmdheafaaGreatDoorRows
import GoSem.ClaimSeven
namespace Go.Proofs.YtmohpcgmdheafaaGreatDoor
namespace Rows

/-- THE TIED CARD OF 'rovinglaw22.PlanEnds'. -/
def planEndsCard : Claim7 := { stood := { row := planEndsRow, standIns := [], harness := (true, "cc1386ab52e53e5853710d6c70f28538153eaaaa4698613823e323167bcad027"), looks := true }, kinds := [], alts := [], laidByText := true, laidKinds := [.handle], laidTests := true, laidLooks := .later }
def PlanEndsCardSaid : Prop := Claim7.holds Tryz.pinned (.plain (OpenSpec.ofChange planEndsSpec)) planEndsCard

/-- THE SECOND FORM's CARD OF 'rovinglaw22.PlanEnds'. -/
def planEndsUptoCard : Claim7 := { stood := { row := planEndsUptoRow, standIns := [], harness := (true, "cc1386ab52e53e5853710d6c70f28538153eaaaa4698613823e323167bcad027"), looks := true }, kinds := [], alts := [], laidByText := true, laidKinds := [.handle], laidTests := true, laidLooks := .later }
def PlanEndsUptoCardSaid : Prop := Claim7.holds Tryz.pinned (.plain (OpenSpec.upto planEndsSpec)) planEndsUptoCard
end Rows
end Go.Proofs.YtmohpcgmdheafaaGreatDoor
