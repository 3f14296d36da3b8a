/-
  NARROWER THAN 'FOR EVERY INPUT', by the rows' own cells (each row's printed sentence says how): EnginePuts: laid · EngineSplit: laid · EngineApart: laid · EngineAlike: laid · EngineTwice: laid · EngineFolds: laid.
  DERIVED. THE GIVEN ROWS OF THIS SEAT. 6 by the template 'for every input the law returns true; each argument reads behind the call as it read before'; 0 by the template 'total and deterministic' (their statements: YtpdmaenhenfofaaGreatDoorTotals.lean).
  GIVEN WITH THE SEED: the statements are not yours to turn. If you find one false, say at which input.
  Laid BY PROGRAM, IN A SANDBOX (cutbox-rows.mjs): the forced cells as the released guide's own fill.sh prints them over the translation 5876ff1b1aab2547… (all of the seat's roots in one cut). By AI agents, Wed Nov 11 2026. No macro, syntax, notation, axiom, sorry.
-/
import Derived.Test.YtpdmaenhenfofaaGreatDoorChecked
import GoSem.Claim
import GoSem.ClaimJoined
import GoSem.ClaimMapViews
import Derived.JoinedTies
import Derived.KernelRfl
namespace Go.Proofs.YtpdmaenhenfofaaGreatDoor
/- THE CELL 'sum', in the pinned program and in every row, IS THE sha256 OF THE DUMP (.gsa) THAT YtpdmaenhenfofaaGreatDoorProg.lean LOADS. Nothing in Lean hashes anything: it is a label: what it is worth is what the hold of that sum in a sandbox is worth. -/
noncomputable def Tryz.pinned : Pinned := { name := "ytpdmaenhenfofaagreatdoor", sum := "5876ff1b1aab2547d73a88e8f30d56cf5a53eb1be51da68ba53a4dc9a935cb09", checked := Tryz.checked }
namespace Rows
def none {H : Type} : Left H := { results := [], args := [] }

/- WHAT THE LISTED PACKAGE-LEVEL VARIABLES READ AS WHEN THE CALL BEGINS. Each datum BY PROGRAM (the guide's laid-datum.mjs) off the statement by which the dump's own 'gosem.cut.vars' lays the variable. In a bare row this is a premise. The card (YtpdmaenhenfofaaGreatDoorCards.lean) ties it to the program's text. -/
def laid_errors_errorType {H : Type} : DataW H := .iface "internal/reflectlite.rtype" (.agg [.ptr (.lit (.string [101, 114, 114, 111, 114]))])

/-- 'rovinglaw17.EnginePuts': WHATEVER THE INPUT: true; the input reads as it did. -/
def enginePutsSpec : ChangeSpec := { name := "enginePuts", fn := fun _ => fun
  | [d1, d2] => { results := [.lit (.bool true)], args := [d1, d2] }
  | _ => none }
def enginePutsRow : OpenClaim := { program := "ytpdmaenhenfofaagreatdoor", sum := "5876ff1b1aab2547d73a88e8f30d56cf5a53eb1be51da68ba53a4dc9a935cb09", func := "roving/rovinglaw17.EnginePuts", spec := "enginePuts", inPlace := ["internal/reflectlite.TypeOf", "internal/reflectlite.ValueOf", "(internal/reflectlite.Value).Type", "(internal/reflectlite.Value).IsNil", "(internal/reflectlite.Value).Elem", "(internal/reflectlite.Value).Set", "slices.overlaps[roving/api.Open]"], unfollowed := true, recurses := true, named := ["errors.errorType"], apart := false, laid := [("errors.errorType", laid_errors_errorType)] }
def EnginePutsSaid : Prop := enginePutsRow.holds Tryz.pinned (OpenSpec.ofChange enginePutsSpec)

/-- ITS FALSE NEIGHBOUR: 'it returns false'. Refute it at one input. -/
def enginePutsWrong : ChangeSpec := { name := "enginePuts", fn := fun _ => fun
  | [d1, d2] => { results := [.lit (.bool false)], args := [d1, d2] }
  | _ => none }
def EnginePutsWrongFalsely : Prop := enginePutsRow.holds Tryz.pinned (OpenSpec.ofChange enginePutsWrong)

/-- 'rovinglaw17.EngineSplit': WHATEVER THE INPUT: true; the input reads as it did. -/
def engineSplitSpec : ChangeSpec := { name := "engineSplit", fn := fun _ => fun
  | [d1, d2] => { results := [.lit (.bool true)], args := [d1, d2] }
  | _ => none }
def engineSplitRow : OpenClaim := { program := "ytpdmaenhenfofaagreatdoor", sum := "5876ff1b1aab2547d73a88e8f30d56cf5a53eb1be51da68ba53a4dc9a935cb09", func := "roving/rovinglaw17.EngineSplit", spec := "engineSplit", inPlace := ["internal/reflectlite.TypeOf", "internal/reflectlite.ValueOf", "(internal/reflectlite.Value).Type", "(internal/reflectlite.Value).IsNil", "(internal/reflectlite.Value).Elem", "(internal/reflectlite.Value).Set", "slices.overlaps[roving/api.Open]"], unfollowed := true, recurses := true, named := ["errors.errorType"], apart := false, laid := [("errors.errorType", laid_errors_errorType)] }
def EngineSplitSaid : Prop := engineSplitRow.holds Tryz.pinned (OpenSpec.ofChange engineSplitSpec)

/-- ITS FALSE NEIGHBOUR: 'it returns false'. Refute it at one input. -/
def engineSplitWrong : ChangeSpec := { name := "engineSplit", fn := fun _ => fun
  | [d1, d2] => { results := [.lit (.bool false)], args := [d1, d2] }
  | _ => none }
def EngineSplitWrongFalsely : Prop := engineSplitRow.holds Tryz.pinned (OpenSpec.ofChange engineSplitWrong)

/-- 'rovinglaw17.EngineApart': WHATEVER THE INPUT: true; the input reads as it did. -/
def engineApartSpec : ChangeSpec := { name := "engineApart", fn := fun _ => fun
  | [d1, d2, d3, d4] => { results := [.lit (.bool true)], args := [d1, d2, d3, d4] }
  | _ => none }
def engineApartRow : OpenClaim := { program := "ytpdmaenhenfofaagreatdoor", sum := "5876ff1b1aab2547d73a88e8f30d56cf5a53eb1be51da68ba53a4dc9a935cb09", func := "roving/rovinglaw17.EngineApart", spec := "engineApart", inPlace := ["internal/reflectlite.TypeOf", "internal/reflectlite.ValueOf", "(internal/reflectlite.Value).Type", "(internal/reflectlite.Value).IsNil", "(internal/reflectlite.Value).Elem", "(internal/reflectlite.Value).Set", "slices.overlaps[roving/api.Open]"], unfollowed := true, recurses := true, named := ["errors.errorType"], apart := false, laid := [("errors.errorType", laid_errors_errorType)] }
def EngineApartSaid : Prop := engineApartRow.holds Tryz.pinned (OpenSpec.ofChange engineApartSpec)

/-- ITS FALSE NEIGHBOUR: 'it returns false'. Refute it at one input. -/
def engineApartWrong : ChangeSpec := { name := "engineApart", fn := fun _ => fun
  | [d1, d2, d3, d4] => { results := [.lit (.bool false)], args := [d1, d2, d3, d4] }
  | _ => none }
def EngineApartWrongFalsely : Prop := engineApartRow.holds Tryz.pinned (OpenSpec.ofChange engineApartWrong)

/-- 'rovinglaw17.EngineAlike': WHATEVER THE INPUT: true; the input reads as it did. -/
def engineAlikeSpec : ChangeSpec := { name := "engineAlike", fn := fun _ => fun
  | [d] => { results := [.lit (.bool true)], args := [d] }
  | _ => none }
def engineAlikeRow : OpenClaim := { program := "ytpdmaenhenfofaagreatdoor", sum := "5876ff1b1aab2547d73a88e8f30d56cf5a53eb1be51da68ba53a4dc9a935cb09", func := "roving/rovinglaw17.EngineAlike", spec := "engineAlike", inPlace := ["internal/reflectlite.TypeOf", "internal/reflectlite.ValueOf", "(internal/reflectlite.Value).Type", "(internal/reflectlite.Value).IsNil", "(internal/reflectlite.Value).Elem", "(internal/reflectlite.Value).Set", "slices.overlaps[roving/api.Open]"], unfollowed := true, recurses := true, named := ["errors.errorType"], apart := false, laid := [("errors.errorType", laid_errors_errorType)] }
def EngineAlikeSaid : Prop := engineAlikeRow.holds Tryz.pinned (OpenSpec.ofChange engineAlikeSpec)

/-- ITS FALSE NEIGHBOUR: 'it returns false'. Refute it at one input. -/
def engineAlikeWrong : ChangeSpec := { name := "engineAlike", fn := fun _ => fun
  | [d] => { results := [.lit (.bool false)], args := [d] }
  | _ => none }
def EngineAlikeWrongFalsely : Prop := engineAlikeRow.holds Tryz.pinned (OpenSpec.ofChange engineAlikeWrong)

/-- 'rovinglaw17.EngineTwice': WHATEVER THE INPUT: true; the input reads as it did. -/
def engineTwiceSpec : ChangeSpec := { name := "engineTwice", fn := fun _ => fun
  | [d1, d2] => { results := [.lit (.bool true)], args := [d1, d2] }
  | _ => none }
def engineTwiceRow : OpenClaim := { program := "ytpdmaenhenfofaagreatdoor", sum := "5876ff1b1aab2547d73a88e8f30d56cf5a53eb1be51da68ba53a4dc9a935cb09", func := "roving/rovinglaw17.EngineTwice", spec := "engineTwice", inPlace := ["internal/reflectlite.TypeOf", "internal/reflectlite.ValueOf", "(internal/reflectlite.Value).Type", "(internal/reflectlite.Value).IsNil", "(internal/reflectlite.Value).Elem", "(internal/reflectlite.Value).Set", "slices.overlaps[roving/api.Open]"], unfollowed := true, recurses := true, named := ["errors.errorType"], apart := false, laid := [("errors.errorType", laid_errors_errorType)] }
def EngineTwiceSaid : Prop := engineTwiceRow.holds Tryz.pinned (OpenSpec.ofChange engineTwiceSpec)

/-- ITS FALSE NEIGHBOUR: 'it returns false'. Refute it at one input. -/
def engineTwiceWrong : ChangeSpec := { name := "engineTwice", fn := fun _ => fun
  | [d1, d2] => { results := [.lit (.bool false)], args := [d1, d2] }
  | _ => none }
def EngineTwiceWrongFalsely : Prop := engineTwiceRow.holds Tryz.pinned (OpenSpec.ofChange engineTwiceWrong)

/-- 'rovinglaw17.EngineFolds': WHATEVER THE INPUT: true; the input reads as it did. -/
def engineFoldsSpec : ChangeSpec := { name := "engineFolds", fn := fun _ => fun
  | [d1, d2] => { results := [.lit (.bool true)], args := [d1, d2] }
  | _ => none }
def engineFoldsRow : OpenClaim := { program := "ytpdmaenhenfofaagreatdoor", sum := "5876ff1b1aab2547d73a88e8f30d56cf5a53eb1be51da68ba53a4dc9a935cb09", func := "roving/rovinglaw17.EngineFolds", spec := "engineFolds", inPlace := ["internal/reflectlite.TypeOf", "internal/reflectlite.ValueOf", "(internal/reflectlite.Value).Type", "(internal/reflectlite.Value).IsNil", "(internal/reflectlite.Value).Elem", "(internal/reflectlite.Value).Set", "slices.overlaps[roving/api.Open]"], unfollowed := true, recurses := true, named := ["errors.errorType"], apart := false, laid := [("errors.errorType", laid_errors_errorType)] }
def EngineFoldsSaid : Prop := engineFoldsRow.holds Tryz.pinned (OpenSpec.ofChange engineFoldsSpec)

/-- ITS FALSE NEIGHBOUR: 'it returns false'. Refute it at one input. -/
def engineFoldsWrong : ChangeSpec := { name := "engineFolds", fn := fun _ => fun
  | [d1, d2] => { results := [.lit (.bool false)], args := [d1, d2] }
  | _ => none }
def EngineFoldsWrongFalsely : Prop := engineFoldsRow.holds Tryz.pinned (OpenSpec.ofChange engineFoldsWrong)

/- THE SECOND FORM. 'bulk': how many values and letters a reading holds, each counted each time it is reached (what is shared counts as often as it is met; a slice's spare places count too). A statement '..UptoSaid' is the law's where the arguments, and the package variables that the reading takes, are together of bulk at most 1048576: NARROWER than '..Said'. Prove '..Said' where nothing that the law and all that it calls make is longer than what came in: it says more and counts as full. Else prove '..UptoSaid'. A law counts once. -/
mutual
def uptoBulk {H : Type} : DataW H → Nat
  | .lit (.string bytes) => bytes.length + 1
  | .lit _ => 1
  | .nil => 1
  | .ptr d => uptoBulk d + 1
  | .slice elems spare => uptoBulkAll elems + uptoBulkAll spare + 1
  | .agg parts => uptoBulkAll parts + 1
  | .iface _ d => uptoBulk d + 1
  | .map entries => uptoBulkEntries entries + 1
  | .held _ => 1
def uptoBulkAll {H : Type} : List (DataW H) → Nat
  | [] => 0
  | d :: r => uptoBulk d + uptoBulkAll r
def uptoBulkEntries {H : Type} : List (Lit × DataW H) → Nat
  | [] => 0
  | x :: r => uptoBulkEntry x + uptoBulkEntries r
def uptoBulkEntry {H : Type} : Lit × DataW H → Nat
  | (.string bytes, d) => bytes.length + uptoBulk d + 1
  | (_, d) => uptoBulk d + 1
 end
def uptoSmall : (H : Type) → List (DataW H) → Bool := fun _ ds => decide (uptoBulkAll ds ≤ 1048576)
def OpenSpec.upto (s : _root_.Go.ChangeSpec) : _root_.Go.OpenSpec := { _root_.Go.OpenSpec.ofChange s with cond := some uptoSmall }

/-- 'rovinglaw17.EnginePuts', WHERE WHAT IT READS IS OF BULK AT MOST 1048576: true; the input reads as it did. -/
def enginePutsUptoRow : OpenClaim := { program := "ytpdmaenhenfofaagreatdoor", sum := "5876ff1b1aab2547d73a88e8f30d56cf5a53eb1be51da68ba53a4dc9a935cb09", func := "roving/rovinglaw17.EnginePuts", spec := "enginePuts", inPlace := ["internal/reflectlite.TypeOf", "internal/reflectlite.ValueOf", "(internal/reflectlite.Value).Type", "(internal/reflectlite.Value).IsNil", "(internal/reflectlite.Value).Elem", "(internal/reflectlite.Value).Set", "slices.overlaps[roving/api.Open]"], unfollowed := true, recurses := true, named := ["errors.errorType"], apart := false, laid := [("errors.errorType", laid_errors_errorType)], narrowed := true }
def EnginePutsUptoSaid : Prop := enginePutsUptoRow.holds Tryz.pinned (OpenSpec.upto enginePutsSpec)

/-- 'rovinglaw17.EngineSplit', WHERE WHAT IT READS IS OF BULK AT MOST 1048576: true; the input reads as it did. -/
def engineSplitUptoRow : OpenClaim := { program := "ytpdmaenhenfofaagreatdoor", sum := "5876ff1b1aab2547d73a88e8f30d56cf5a53eb1be51da68ba53a4dc9a935cb09", func := "roving/rovinglaw17.EngineSplit", spec := "engineSplit", inPlace := ["internal/reflectlite.TypeOf", "internal/reflectlite.ValueOf", "(internal/reflectlite.Value).Type", "(internal/reflectlite.Value).IsNil", "(internal/reflectlite.Value).Elem", "(internal/reflectlite.Value).Set", "slices.overlaps[roving/api.Open]"], unfollowed := true, recurses := true, named := ["errors.errorType"], apart := false, laid := [("errors.errorType", laid_errors_errorType)], narrowed := true }
def EngineSplitUptoSaid : Prop := engineSplitUptoRow.holds Tryz.pinned (OpenSpec.upto engineSplitSpec)

/-- 'rovinglaw17.EngineApart', WHERE WHAT IT READS IS OF BULK AT MOST 1048576: true; the input reads as it did. -/
def engineApartUptoRow : OpenClaim := { program := "ytpdmaenhenfofaagreatdoor", sum := "5876ff1b1aab2547d73a88e8f30d56cf5a53eb1be51da68ba53a4dc9a935cb09", func := "roving/rovinglaw17.EngineApart", spec := "engineApart", inPlace := ["internal/reflectlite.TypeOf", "internal/reflectlite.ValueOf", "(internal/reflectlite.Value).Type", "(internal/reflectlite.Value).IsNil", "(internal/reflectlite.Value).Elem", "(internal/reflectlite.Value).Set", "slices.overlaps[roving/api.Open]"], unfollowed := true, recurses := true, named := ["errors.errorType"], apart := false, laid := [("errors.errorType", laid_errors_errorType)], narrowed := true }
def EngineApartUptoSaid : Prop := engineApartUptoRow.holds Tryz.pinned (OpenSpec.upto engineApartSpec)

/-- 'rovinglaw17.EngineAlike', WHERE WHAT IT READS IS OF BULK AT MOST 1048576: true; the input reads as it did. -/
def engineAlikeUptoRow : OpenClaim := { program := "ytpdmaenhenfofaagreatdoor", sum := "5876ff1b1aab2547d73a88e8f30d56cf5a53eb1be51da68ba53a4dc9a935cb09", func := "roving/rovinglaw17.EngineAlike", spec := "engineAlike", inPlace := ["internal/reflectlite.TypeOf", "internal/reflectlite.ValueOf", "(internal/reflectlite.Value).Type", "(internal/reflectlite.Value).IsNil", "(internal/reflectlite.Value).Elem", "(internal/reflectlite.Value).Set", "slices.overlaps[roving/api.Open]"], unfollowed := true, recurses := true, named := ["errors.errorType"], apart := false, laid := [("errors.errorType", laid_errors_errorType)], narrowed := true }
def EngineAlikeUptoSaid : Prop := engineAlikeUptoRow.holds Tryz.pinned (OpenSpec.upto engineAlikeSpec)

/-- 'rovinglaw17.EngineTwice', WHERE WHAT IT READS IS OF BULK AT MOST 1048576: true; the input reads as it did. -/
def engineTwiceUptoRow : OpenClaim := { program := "ytpdmaenhenfofaagreatdoor", sum := "5876ff1b1aab2547d73a88e8f30d56cf5a53eb1be51da68ba53a4dc9a935cb09", func := "roving/rovinglaw17.EngineTwice", spec := "engineTwice", inPlace := ["internal/reflectlite.TypeOf", "internal/reflectlite.ValueOf", "(internal/reflectlite.Value).Type", "(internal/reflectlite.Value).IsNil", "(internal/reflectlite.Value).Elem", "(internal/reflectlite.Value).Set", "slices.overlaps[roving/api.Open]"], unfollowed := true, recurses := true, named := ["errors.errorType"], apart := false, laid := [("errors.errorType", laid_errors_errorType)], narrowed := true }
def EngineTwiceUptoSaid : Prop := engineTwiceUptoRow.holds Tryz.pinned (OpenSpec.upto engineTwiceSpec)

/-- 'rovinglaw17.EngineFolds', WHERE WHAT IT READS IS OF BULK AT MOST 1048576: true; the input reads as it did. -/
def engineFoldsUptoRow : OpenClaim := { program := "ytpdmaenhenfofaagreatdoor", sum := "5876ff1b1aab2547d73a88e8f30d56cf5a53eb1be51da68ba53a4dc9a935cb09", func := "roving/rovinglaw17.EngineFolds", spec := "engineFolds", inPlace := ["internal/reflectlite.TypeOf", "internal/reflectlite.ValueOf", "(internal/reflectlite.Value).Type", "(internal/reflectlite.Value).IsNil", "(internal/reflectlite.Value).Elem", "(internal/reflectlite.Value).Set", "slices.overlaps[roving/api.Open]"], unfollowed := true, recurses := true, named := ["errors.errorType"], apart := false, laid := [("errors.errorType", laid_errors_errorType)], narrowed := true }
def EngineFoldsUptoSaid : Prop := engineFoldsUptoRow.holds Tryz.pinned (OpenSpec.upto engineFoldsSpec)

end Rows
end Go.Proofs.YtpdmaenhenfofaaGreatDoor
