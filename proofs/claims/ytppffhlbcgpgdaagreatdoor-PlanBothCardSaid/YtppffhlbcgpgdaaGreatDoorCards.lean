/-
  DERIVED. GIVEN WITH THE SEED: THE CARDS: each row of YtppffhlbcgpgdaaGreatDoorRows.lean that lists a variable, with what it lists TIED to the program's text (the seventh form; the later family's looks); each row that meets fmt, with fmt's text TOLD by the authors' own Lean function (tested against real Go, not proved from fmt's source: count such statements apart). THE CARD IS WHAT COUNTS. Prove the row's statement (the work); the ties are given (YtppffhlbcgpgdaaGreatDoorTie.lean); close each card by the builder's one call (the guide's Derived/Test/ToyasCard.lean, 'card_holds'). Laid BY PROGRAM, IN A SANDBOX (cutbox-door.mjs). By AI agents, Wed Nov 11 2026. No macro, syntax, notation, axiom, sorry.
-/
import Derived.Test.YtppffhlbcgpgdaaGreatDoorRows
import GoSem.ClaimSeven
namespace Go.Proofs.YtppffhlbcgpgdaaGreatDoor
namespace Rows

/-- THE TIED CARD OF 'rovinglaw22.PlanKeeps'. -/
def planKeepsCard : Claim7 := { stood := { row := planKeepsRow, standIns := [], harness := (true, "e7de8548e6704f9bd3759029a053bb2176db59f24de92259a14f23071c83d6eb"), looks := true }, kinds := [], alts := [], laidByText := true, laidKinds := [.handle], laidTests := true, laidLooks := .later }
def PlanKeepsCardSaid : Prop := Claim7.holds Tryz.pinned (.plain (OpenSpec.ofChange planKeepsSpec)) planKeepsCard

/-- THE TIED CARD OF 'rovinglaw22.PlanAgain'. -/
def planAgainCard : Claim7 := { stood := { row := planAgainRow, standIns := [], harness := (true, "e7de8548e6704f9bd3759029a053bb2176db59f24de92259a14f23071c83d6eb"), looks := true }, kinds := [], alts := [], laidByText := true, laidKinds := [.handle], laidTests := true, laidLooks := .later }
def PlanAgainCardSaid : Prop := Claim7.holds Tryz.pinned (.plain (OpenSpec.ofChange planAgainSpec)) planAgainCard

/-- THE TIED CARD OF 'rovinglaw22.PlanBoth'. -/
def planBothCard : Claim7 := { stood := { row := planBothRow, standIns := [], harness := (true, "e7de8548e6704f9bd3759029a053bb2176db59f24de92259a14f23071c83d6eb"), looks := true }, kinds := [], alts := [], laidByText := true, laidKinds := [.handle], laidTests := true, laidLooks := .later }
def PlanBothCardSaid : Prop := Claim7.holds Tryz.pinned (.plain (OpenSpec.ofChange planBothSpec)) planBothCard

/-- THE TIED CARD OF 'rovinglaw22.PlanVisible'. -/
def planVisibleCard : Claim7 := { stood := { row := planVisibleRow, standIns := [], harness := (true, "e7de8548e6704f9bd3759029a053bb2176db59f24de92259a14f23071c83d6eb"), looks := true }, kinds := [], alts := [], laidByText := true, laidKinds := [.handle], laidTests := true, laidLooks := .later }
def PlanVisibleCardSaid : Prop := Claim7.holds Tryz.pinned (.plain (OpenSpec.ofChange planVisibleSpec)) planVisibleCard

/-- THE SECOND FORM's CARD OF 'rovinglaw22.PlanKeeps'. -/
def planKeepsUptoCard : Claim7 := { stood := { row := planKeepsUptoRow, standIns := [], harness := (true, "e7de8548e6704f9bd3759029a053bb2176db59f24de92259a14f23071c83d6eb"), looks := true }, kinds := [], alts := [], laidByText := true, laidKinds := [.handle], laidTests := true, laidLooks := .later }
def PlanKeepsUptoCardSaid : Prop := Claim7.holds Tryz.pinned (.plain (OpenSpec.upto planKeepsSpec)) planKeepsUptoCard

/-- THE SECOND FORM's CARD OF 'rovinglaw22.PlanAgain'. -/
def planAgainUptoCard : Claim7 := { stood := { row := planAgainUptoRow, standIns := [], harness := (true, "e7de8548e6704f9bd3759029a053bb2176db59f24de92259a14f23071c83d6eb"), looks := true }, kinds := [], alts := [], laidByText := true, laidKinds := [.handle], laidTests := true, laidLooks := .later }
def PlanAgainUptoCardSaid : Prop := Claim7.holds Tryz.pinned (.plain (OpenSpec.upto planAgainSpec)) planAgainUptoCard

/-- THE SECOND FORM's CARD OF 'rovinglaw22.PlanBoth'. -/
def planBothUptoCard : Claim7 := { stood := { row := planBothUptoRow, standIns := [], harness := (true, "e7de8548e6704f9bd3759029a053bb2176db59f24de92259a14f23071c83d6eb"), looks := true }, kinds := [], alts := [], laidByText := true, laidKinds := [.handle], laidTests := true, laidLooks := .later }
def PlanBothUptoCardSaid : Prop := Claim7.holds Tryz.pinned (.plain (OpenSpec.upto planBothSpec)) planBothUptoCard

/-- THE SECOND FORM's CARD OF 'rovinglaw22.PlanVisible'. -/
def planVisibleUptoCard : Claim7 := { stood := { row := planVisibleUptoRow, standIns := [], harness := (true, "e7de8548e6704f9bd3759029a053bb2176db59f24de92259a14f23071c83d6eb"), looks := true }, kinds := [], alts := [], laidByText := true, laidKinds := [.handle], laidTests := true, laidLooks := .later }
def PlanVisibleUptoCardSaid : Prop := Claim7.holds Tryz.pinned (.plain (OpenSpec.upto planVisibleSpec)) planVisibleUptoCard
end Rows
end Go.Proofs.YtppffhlbcgpgdaaGreatDoor
