/-
  DERIVED. GIVEN WITH THE SEED: THE CARDS: each row of YtpdmaenhenfofaaGreatDoorRows.lean that lists a variable, with what it lists TIED to the program's text (the seventh form; the later family's looks); each row that meets fmt, with fmt's text TOLD by the authors' own Lean function (tested against real Go, not proved from fmt's source: count such statements apart). THE CARD IS WHAT COUNTS. Prove the row's statement (the work); the ties are given (YtpdmaenhenfofaaGreatDoorTie.lean); close each card by the builder's one call (the guide's Derived/Test/ToyasCard.lean, 'card_holds'). Laid BY PROGRAM, IN A SANDBOX (cutbox-door.mjs). By AI agents, Wed Nov 11 2026. No macro, syntax, notation, axiom, sorry.
-/
import Derived.Test.YtpdmaenhenfofaaGreatDoorRows
import GoSem.ClaimSeven
namespace Go.Proofs.YtpdmaenhenfofaaGreatDoor
namespace Rows

/-- THE TIED CARD OF 'rovinglaw17.EnginePuts'. -/
def enginePutsCard : Claim7 := { stood := { row := enginePutsRow, standIns := [], harness := (true, "2f23d9119d9cbebab3e7895d4d15e37120aa0fa79f9235d2ec354016f56b84c7"), looks := true }, kinds := [], alts := [], laidByText := true, laidKinds := [.handle], laidTests := true, laidLooks := .later }
def EnginePutsCardSaid : Prop := Claim7.holds Tryz.pinned (.plain (OpenSpec.ofChange enginePutsSpec)) enginePutsCard

/-- THE TIED CARD OF 'rovinglaw17.EngineSplit'. -/
def engineSplitCard : Claim7 := { stood := { row := engineSplitRow, standIns := [], harness := (true, "2f23d9119d9cbebab3e7895d4d15e37120aa0fa79f9235d2ec354016f56b84c7"), looks := true }, kinds := [], alts := [], laidByText := true, laidKinds := [.handle], laidTests := true, laidLooks := .later }
def EngineSplitCardSaid : Prop := Claim7.holds Tryz.pinned (.plain (OpenSpec.ofChange engineSplitSpec)) engineSplitCard

/-- THE TIED CARD OF 'rovinglaw17.EngineApart'. -/
def engineApartCard : Claim7 := { stood := { row := engineApartRow, standIns := [], harness := (true, "2f23d9119d9cbebab3e7895d4d15e37120aa0fa79f9235d2ec354016f56b84c7"), looks := true }, kinds := [], alts := [], laidByText := true, laidKinds := [.handle], laidTests := true, laidLooks := .later }
def EngineApartCardSaid : Prop := Claim7.holds Tryz.pinned (.plain (OpenSpec.ofChange engineApartSpec)) engineApartCard

/-- THE TIED CARD OF 'rovinglaw17.EngineAlike'. -/
def engineAlikeCard : Claim7 := { stood := { row := engineAlikeRow, standIns := [], harness := (true, "2f23d9119d9cbebab3e7895d4d15e37120aa0fa79f9235d2ec354016f56b84c7"), looks := true }, kinds := [], alts := [], laidByText := true, laidKinds := [.handle], laidTests := true, laidLooks := .later }
def EngineAlikeCardSaid : Prop := Claim7.holds Tryz.pinned (.plain (OpenSpec.ofChange engineAlikeSpec)) engineAlikeCard

/-- THE TIED CARD OF 'rovinglaw17.EngineTwice'. -/
def engineTwiceCard : Claim7 := { stood := { row := engineTwiceRow, standIns := [], harness := (true, "2f23d9119d9cbebab3e7895d4d15e37120aa0fa79f9235d2ec354016f56b84c7"), looks := true }, kinds := [], alts := [], laidByText := true, laidKinds := [.handle], laidTests := true, laidLooks := .later }
def EngineTwiceCardSaid : Prop := Claim7.holds Tryz.pinned (.plain (OpenSpec.ofChange engineTwiceSpec)) engineTwiceCard

/-- THE TIED CARD OF 'rovinglaw17.EngineFolds'. -/
def engineFoldsCard : Claim7 := { stood := { row := engineFoldsRow, standIns := [], harness := (true, "2f23d9119d9cbebab3e7895d4d15e37120aa0fa79f9235d2ec354016f56b84c7"), looks := true }, kinds := [], alts := [], laidByText := true, laidKinds := [.handle], laidTests := true, laidLooks := .later }
def EngineFoldsCardSaid : Prop := Claim7.holds Tryz.pinned (.plain (OpenSpec.ofChange engineFoldsSpec)) engineFoldsCard

/-- THE SECOND FORM's CARD OF 'rovinglaw17.EnginePuts'. -/
def enginePutsUptoCard : Claim7 := { stood := { row := enginePutsUptoRow, standIns := [], harness := (true, "2f23d9119d9cbebab3e7895d4d15e37120aa0fa79f9235d2ec354016f56b84c7"), looks := true }, kinds := [], alts := [], laidByText := true, laidKinds := [.handle], laidTests := true, laidLooks := .later }
def EnginePutsUptoCardSaid : Prop := Claim7.holds Tryz.pinned (.plain (OpenSpec.upto enginePutsSpec)) enginePutsUptoCard

/-- THE SECOND FORM's CARD OF 'rovinglaw17.EngineSplit'. -/
def engineSplitUptoCard : Claim7 := { stood := { row := engineSplitUptoRow, standIns := [], harness := (true, "2f23d9119d9cbebab3e7895d4d15e37120aa0fa79f9235d2ec354016f56b84c7"), looks := true }, kinds := [], alts := [], laidByText := true, laidKinds := [.handle], laidTests := true, laidLooks := .later }
def EngineSplitUptoCardSaid : Prop := Claim7.holds Tryz.pinned (.plain (OpenSpec.upto engineSplitSpec)) engineSplitUptoCard

/-- THE SECOND FORM's CARD OF 'rovinglaw17.EngineApart'. -/
def engineApartUptoCard : Claim7 := { stood := { row := engineApartUptoRow, standIns := [], harness := (true, "2f23d9119d9cbebab3e7895d4d15e37120aa0fa79f9235d2ec354016f56b84c7"), looks := true }, kinds := [], alts := [], laidByText := true, laidKinds := [.handle], laidTests := true, laidLooks := .later }
def EngineApartUptoCardSaid : Prop := Claim7.holds Tryz.pinned (.plain (OpenSpec.upto engineApartSpec)) engineApartUptoCard

/-- THE SECOND FORM's CARD OF 'rovinglaw17.EngineAlike'. -/
def engineAlikeUptoCard : Claim7 := { stood := { row := engineAlikeUptoRow, standIns := [], harness := (true, "2f23d9119d9cbebab3e7895d4d15e37120aa0fa79f9235d2ec354016f56b84c7"), looks := true }, kinds := [], alts := [], laidByText := true, laidKinds := [.handle], laidTests := true, laidLooks := .later }
def EngineAlikeUptoCardSaid : Prop := Claim7.holds Tryz.pinned (.plain (OpenSpec.upto engineAlikeSpec)) engineAlikeUptoCard

/-- THE SECOND FORM's CARD OF 'rovinglaw17.EngineTwice'. -/
def engineTwiceUptoCard : Claim7 := { stood := { row := engineTwiceUptoRow, standIns := [], harness := (true, "2f23d9119d9cbebab3e7895d4d15e37120aa0fa79f9235d2ec354016f56b84c7"), looks := true }, kinds := [], alts := [], laidByText := true, laidKinds := [.handle], laidTests := true, laidLooks := .later }
def EngineTwiceUptoCardSaid : Prop := Claim7.holds Tryz.pinned (.plain (OpenSpec.upto engineTwiceSpec)) engineTwiceUptoCard

/-- THE SECOND FORM's CARD OF 'rovinglaw17.EngineFolds'. -/
def engineFoldsUptoCard : Claim7 := { stood := { row := engineFoldsUptoRow, standIns := [], harness := (true, "2f23d9119d9cbebab3e7895d4d15e37120aa0fa79f9235d2ec354016f56b84c7"), looks := true }, kinds := [], alts := [], laidByText := true, laidKinds := [.handle], laidTests := true, laidLooks := .later }
def EngineFoldsUptoCardSaid : Prop := Claim7.holds Tryz.pinned (.plain (OpenSpec.upto engineFoldsSpec)) engineFoldsUptoCard
end Rows
end Go.Proofs.YtpdmaenhenfofaaGreatDoor
