/- PlanBoth: a closed fact of its card: what its row goes by. -/
import Derived.Test.YtppffhlbcgpgdaaGreatDoorCards
set_option linter.all false
set_option maxRecDepth 100000
set_option maxHeartbeats 8000000
namespace Go.Proofs.YtppffhlbcgpgdaaGreatDoor
theorem A91:false=Rows.planBothRow.goesBy Tryz.pinned.checked.prog:=by kernel_rfl
