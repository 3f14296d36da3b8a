/- PlanEnds: closed facts of its row: what is walked in place, what is not followed. -/
import Derived.Test.YtmohpcgmdheafaaGreatDoorCards
import Derived.JoinedOf
set_option linter.unusedVariables false
set_option linter.unusedSimpArgs false
set_option maxRecDepth 100000
set_option maxHeartbeats 8000000
namespace Go.Proofs.YtmohpcgmdheafaaGreatDoor
theorem YX:(Rows.planEndsRow.inPlace==Tryz.pinned.checked.prog.inPlace 3)=true:=by kernel_rfl
theorem S3:(Rows.planEndsRow.unfollowed==Tryz.pinned.checked.prog.unfollowed 3)=true:=by kernel_rfl
end Go.Proofs.YtmohpcgmdheafaaGreatDoor
