/- Contracts of the program: entries that may be, of all kinds. -/
import Derived.Test.YtpdmaenhenfofaaGreatDoorPg1
import Derived.Test.YtpdmaenhenfofaaGreatDoorPg2
import Derived.Test.YtpdmaenhenfofaaGreatDoorPg5
import Derived.Test.YtpdmaenhenfofaaGreatDoorPg6
import Derived.Test.YtpdmaenhenfofaaGreatDoorPh
import Derived.Test.YtpdmaenhenfofaaGreatDoorPi
set_option linter.unusedVariables false
set_option linter.unusedSimpArgs false
namespace Go.Proofs.YtpdmaenhenfofaaGreatDoor
open Go.Am
attribute [local irreducible] Decidable.decide
set_option maxRecDepth 100000
set_option maxHeartbeats 1000000

theorem emayO (x : Entry) (h0 : x.kind ≠ 0) (h1 : x.kind ≠ 1) (h2 : x.kind ≠ 2) (h3 : x.kind ≠ 3) (h4 : x.kind ≠ 4) (h5 : x.kind ≠ 5) (h6 : x.kind ≠ 6) : Ct Tryz.prog 109 [.agg (liftT (encEntry x))] [] (.t (.bool (mayE x))) [] := by
  refine ct0 progOk Tryz.func109 rfl false rfl rfl ?_
  repeat' (first | refine w_stepZ progOk rfl rfl rfl rfl rfl ?_ | refine w_step progOk rfl rfl rfl ?_ | refine w_nil ?_ | refine w_seq ?_ | refine w_reg progOk rfl rfl ?_ | (refine w_gTP rfl rfl rfl rfl rfl (ht := fun h => ?_) (hf := fun h => ?_) <;> try exact prn) | (refine w_gFP rfl rfl rfl rfl rfl (ht := fun h => ?_) (hf := fun h => ?_) <;> try exact prn) | refine w_guardU rfl rfl rfl rfl rfl ?_ | (refine w_condP rfl (ht := fun h => ?_) (hf := fun h => ?_) <;> try exact prn) | refine w_block ?_ | refine w_skip ?_ | refine w_exit ?_ | refine w_ret ?_ | refine w_index progOk rfl rfl rfl rfl rfl rfl rfl (map_get (by assumption)) rfl ?_ | refine w_indexE progOk rfl rfl rfl rfl rfl rfl rfl (by assumption) (map_get (by assumption)) rfl ?_ | refine w_appNil progOk rfl rfl rfl rfl rfl rfl rfl rfl rfl rfl rfl rfl rfl (by simp [chunk]; omega) ?_ | refine w_appRow progOk rfl rfl rfl rfl rfl rfl rfl rfl rfl rfl rfl rfl rfl rfl (by simp [chunk]; omega) ?_ | refine s_step rfl rfl rfl rfl ?_ | refine s_nil ?_ | (refine s_gTP rfl rfl rfl rfl rfl (ht := fun h => ?_) (hf := fun h => ?_) <;> try exact prn) | (refine s_gFP rfl rfl rfl rfl rfl (ht := fun h => ?_) (hf := fun h => ?_) <;> try exact prn) | refine s_guardU rfl rfl rfl rfl rfl ?_ | refine s_index rfl rfl rfl rfl rfl rfl rfl (map_get (by assumption)) rfl ?_ | fail)
  all_goals (refine w_fin rfl (subB ?_); simp [mayE, *])

theorem emay_ok (hK : KnownOk) (x : Entry) (ha : x.b.recs.length ≤ 1000000) (hp : x.prod.seen.length ≤ 1000000) : Ct Tryz.prog 109 [.agg (liftT (encEntry x))] [] (.t (.bool (mayE x))) [] := by
  by_cases h0 : x.kind = 0
  · exact emay0 hK x h0 ha hp
  by_cases h1 : x.kind = 1
  · exact emay1 hK x h1 ha hp
  by_cases h2 : x.kind = 2
  · exact emay2 hK x h2 ha hp
  by_cases h3 : x.kind = 3
  · exact emay3 x h3 ha hp
  by_cases h4 : x.kind = 4
  · exact emay4 x h4 ha hp
  by_cases h5 : x.kind = 5
  · exact emay5 hK x h5 ha hp
  by_cases h6 : x.kind = 6
  · exact emay6 hK x h6 ha hp
  exact emayO x h0 h1 h2 h3 h4 h5 h6

end Go.Proofs.YtpdmaenhenfofaaGreatDoor
