/- PlanEnds: a closed fact of its card: what its row goes by. -/
import Derived.Test.YtmohpcgmdheafaaGreatDoorCards
set_option linter.unusedVariables false
set_option linter.unusedSimpArgs false
set_option maxRecDepth 100000
set_option maxHeartbeats 8000000
namespace Go.Proofs.YtmohpcgmdheafaaGreatDoor
theorem Alr:false=Rows.planEndsRow.goesBy Tryz.pinned.checked.prog:=by kernel_rfl
end Go.Proofs.YtmohpcgmdheafaaGreatDoor
