/- PlanBoth: closed facts of its row: what is walked in place, what is not followed. -/
import Derived.Test.YtppffhlbcgpgdaaGreatDoorCards
import Derived.JoinedOf
set_option linter.all false
set_option maxRecDepth 100000
set_option maxHeartbeats 8000000
namespace Go.Proofs.YtppffhlbcgpgdaaGreatDoor
theorem A9u:(Rows.planBothRow.inPlace==Tryz.pinned.checked.prog.inPlace 5)=true:=by kernel_rfl
theorem A9c:(Rows.planBothRow.unfollowed==Tryz.pinned.checked.prog.unfollowed 5)=true:=by kernel_rfl
