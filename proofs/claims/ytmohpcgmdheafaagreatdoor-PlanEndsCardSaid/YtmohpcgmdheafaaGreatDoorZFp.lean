/- PlanEnds: the closed facts of its row, joined. -/
import Derived.Test.YtmohpcgmdheafaaGreatDoorZFh
import Derived.Test.YtmohpcgmdheafaaGreatDoorZFo
set_option linter.unusedVariables false
set_option linter.unusedSimpArgs false
set_option maxRecDepth 100000
set_option maxHeartbeats 8000000
namespace Go.Proofs.YtmohpcgmdheafaaGreatDoor
theorem W5:Tryz.pinned.checked.prog.funcNamed Rows.planEndsRow.func=some 3:=by kernel_rfl
set_option maxHeartbeats 40000000 in
theorem Adi:joinedFacts Tryz.pinned.checked.prog 3 Tryz.f3 Rows.planEndsSpec Rows.planEndsRow=true:=by
 simp only[joinedFacts,Bool.and_eq_true]
 repeat' apply And.intro
 all_goals first
  |with_reducible exact YX
  |with_reducible exact S3
  |with_reducible exact W4
  |with_reducible exact Ag7
  |(as_aux_lemma=>kernel_rfl)
end Go.Proofs.YtmohpcgmdheafaaGreatDoor
