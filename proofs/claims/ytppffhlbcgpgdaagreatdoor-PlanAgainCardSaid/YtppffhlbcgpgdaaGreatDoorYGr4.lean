/- PlanAgain: the closed facts of its row, joined. -/
import Derived.Test.YtppffhlbcgpgdaaGreatDoorYGr2
import Derived.Test.YtppffhlbcgpgdaaGreatDoorYGr3
set_option linter.all false
set_option maxRecDepth 100000
set_option maxHeartbeats 8000000
namespace Go.Proofs.YtppffhlbcgpgdaaGreatDoor
theorem A9r:Tryz.pinned.checked.prog.funcNamed Rows.planAgainRow.func=some 4:=by kernel_rfl
set_option maxHeartbeats 40000000 in
theorem A9y:joinedFacts Tryz.pinned.checked.prog 4 Tryz.f4 Rows.planAgainSpec Rows.planAgainRow=true:=by
 simp only[joinedFacts,Bool.and_eq_true]
 repeat' apply And.intro
 all_goals first
  |with_reducible exact A9w
  |with_reducible exact A9h
  |with_reducible exact A9q
  |with_reducible exact A91
  |(as_aux_lemma=>kernel_rfl)
