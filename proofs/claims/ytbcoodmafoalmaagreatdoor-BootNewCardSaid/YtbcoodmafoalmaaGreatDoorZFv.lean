/- BootNew: the closed facts of its row, joined. -/
import Derived.Test.YtbcoodmafoalmaaGreatDoorZFt
import Derived.Test.YtbcoodmafoalmaaGreatDoorZFu
set_option linter.unusedVariables false
set_option linter.unusedSimpArgs false
namespace Go.Proofs.YtbcoodmafoalmaaGreatDoor
set_option maxRecDepth 100000
theorem bn_named : Tryz.pinned.checked.prog.funcNamed Rows.bootNewRow.func = some 3 := by kernel_rfl
set_option maxHeartbeats 40000000 in
theorem bn_closed : joinedFacts Tryz.pinned.checked.prog 3 Tryz.f3 Rows.bootNewSpec Rows.bootNewRow = true := by
  simp only [joinedFacts, Bool.and_eq_true]
  repeat' apply And.intro
  all_goals first
    | with_reducible exact bn_inPlace
    | with_reducible exact bn_unfollowed
    | with_reducible exact bn_recurses
    | with_reducible exact bn_names
    | (as_aux_lemma => kernel_rfl)
end Go.Proofs.YtbcoodmafoalmaaGreatDoor
