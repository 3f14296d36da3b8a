/- More shapes of arguments: numbers, structs. -/
import Derived.Test.YtpdmaenhenfofaaGreatDoorZFa
set_option linter.unusedVariables false
set_option linter.unusedSimpArgs false
namespace Go.Proofs.YtpdmaenhenfofaaGreatDoor
open Go.Am Go.ChangeShapes Go.WideShapes Go.RowKit
set_option maxRecDepth 100000
theorem VY {W:World} {base:Nat} {t:TypeId} {k:IntKind} {v:Value} (hu:Tryz.prog.underlying t=some (.int k)) (h:Value.okWide Tryz.prog W .any base t v):v.cells.toList=[v]:=by
 cases v<;>simp[Value.okWide,hu,Cell.okWide,Cell.ok]at h<;>simp[Value.cells]
end Go.Proofs.YtpdmaenhenfofaaGreatDoor
