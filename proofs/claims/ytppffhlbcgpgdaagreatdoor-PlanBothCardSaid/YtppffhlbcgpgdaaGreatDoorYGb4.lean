/- PlanBoth: the closed facts of its row, joined. -/
import Derived.Test.YtppffhlbcgpgdaaGreatDoorYGb2
import Derived.Test.YtppffhlbcgpgdaaGreatDoorYGb3
set_option linter.all false
set_option maxRecDepth 100000
set_option maxHeartbeats 8000000
namespace Go.Proofs.YtppffhlbcgpgdaaGreatDoor
theorem A9p:Tryz.pinned.checked.prog.funcNamed Rows.planBothRow.func=some 5:=by kernel_rfl
set_option maxHeartbeats 40000000 in
theorem A9w:joinedFacts Tryz.pinned.checked.prog 5 Tryz.f5 Rows.planBothSpec Rows.planBothRow=true:=by
 simp only[joinedFacts,Bool.and_eq_true]
 repeat' apply And.intro
 all_goals first
  |with_reducible exact A9u
  |with_reducible exact A9c
  |with_reducible exact A9o
  |with_reducible exact A9z
  |(as_aux_lemma=>kernel_rfl)
