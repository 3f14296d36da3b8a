/- PlanBoth: closed facts of its row: what recurses, what it names. -/
import Derived.Test.YtppffhlbcgpgdaaGreatDoorCards
import Derived.JoinedOf
set_option linter.all false
set_option maxRecDepth 100000
set_option maxHeartbeats 8000000
namespace Go.Proofs.YtppffhlbcgpgdaaGreatDoor
theorem A9o:(Rows.planBothRow.recurses==Tryz.pinned.checked.prog.recurses 5)=true:=by kernel_rfl
theorem A9z:(Rows.planBothRow.named==Tryz.pinned.checked.prog.varsNamed 5)=true:=by kernel_rfl
