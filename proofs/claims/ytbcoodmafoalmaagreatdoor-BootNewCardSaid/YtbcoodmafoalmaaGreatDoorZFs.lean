/- BootNew: a closed fact of its card: what its row goes by. -/
import Derived.Test.YtbcoodmafoalmaaGreatDoorCards
set_option linter.unusedVariables false
set_option linter.unusedSimpArgs false
namespace Go.Proofs.YtbcoodmafoalmaaGreatDoor
set_option maxRecDepth 100000
theorem bn_goes : false = Rows.bootNewRow.goesBy Tryz.pinned.checked.prog := by kernel_rfl
end Go.Proofs.YtbcoodmafoalmaaGreatDoor
