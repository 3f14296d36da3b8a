/- BootNew: closed facts of its row: what recurses, what it names. -/
import Derived.Test.YtbcoodmafoalmaaGreatDoorCards
import Derived.JoinedOf
set_option linter.unusedVariables false
set_option linter.unusedSimpArgs false
namespace Go.Proofs.YtbcoodmafoalmaaGreatDoor
set_option maxRecDepth 100000
theorem bn_recurses : (Rows.bootNewRow.recurses == Tryz.pinned.checked.prog.recurses 3) = true := by kernel_rfl
theorem bn_names : (Rows.bootNewRow.named == Tryz.pinned.checked.prog.varsNamed 3) = true := by kernel_rfl
end Go.Proofs.YtbcoodmafoalmaaGreatDoor
