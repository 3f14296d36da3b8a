/- PlanKeeps: the closed facts of its row, joined. -/
import Derived.Test.YtppffhlbcgpgdaaGreatDoorYGa2
import Derived.Test.YtppffhlbcgpgdaaGreatDoorYGa3
set_option linter.all false
set_option maxRecDepth 100000
set_option maxHeartbeats 8000000
namespace Go.Proofs.YtppffhlbcgpgdaaGreatDoor
theorem A9r:Tryz.pinned.checked.prog.funcNamed Rows.planKeepsRow.func=some 3:=by kernel_rfl
set_option maxHeartbeats 40000000 in
theorem A9y:joinedFacts Tryz.pinned.checked.prog 3 Tryz.f3 Rows.planKeepsSpec Rows.planKeepsRow=true:=by
 simp only[joinedFacts,Bool.and_eq_true]
 repeat' apply And.intro
 all_goals first
  |with_reducible exact A9w
  |with_reducible exact A9h
  |with_reducible exact A9q
  |with_reducible exact A91
  |(as_aux_lemma=>kernel_rfl)
