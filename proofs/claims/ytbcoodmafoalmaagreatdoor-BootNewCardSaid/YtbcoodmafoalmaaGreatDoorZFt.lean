/- BootNew: closed facts of its row: what is walked in place, what is not followed. -/
import Derived.Test.YtbcoodmafoalmaaGreatDoorCards
import Derived.JoinedOf
set_option linter.unusedVariables false
set_option linter.unusedSimpArgs false
namespace Go.Proofs.YtbcoodmafoalmaaGreatDoor
set_option maxRecDepth 100000
theorem bn_inPlace : (Rows.bootNewRow.inPlace == Tryz.pinned.checked.prog.inPlace 3) = true := by kernel_rfl
theorem bn_unfollowed : (Rows.bootNewRow.unfollowed == Tryz.pinned.checked.prog.unfollowed 3) = true := by kernel_rfl
end Go.Proofs.YtbcoodmafoalmaaGreatDoor
