/- More shapes of arguments: the acts of a law's script. -/
import Derived.Test.YtpdmaenhenfofaaGreatDoorZFb
import Derived.Test.YtpdmaenhenfofaaGreatDoorZJ16
set_option linter.unusedVariables false
set_option linter.unusedSimpArgs false
namespace Go.Proofs.YtpdmaenhenfofaaGreatDoor
open Go.Am Go.ChangeShapes Go.WideShapes Go.RowKit
set_option maxRecDepth 100000
def shAct : Sh := .struct [.int .i64, shBatch, .int .i64, .bool, .int .i64]
theorem q_act {xs : List T} (h : shAct.Q xs) : ∃ a, xs = encAct2 a := by
  simp only [shAct, Sh.Q, QL] at h
  obtain ⟨_, _, ⟨a, rfl⟩, ⟨_, _, hb, ⟨_, _, ⟨c, rfl⟩, ⟨_, _, ⟨d, rfl⟩, ⟨_, _, ⟨e, rfl⟩, rfl, rfl⟩, rfl⟩, rfl⟩, rfl⟩, rfl⟩ := h
  obtain ⟨b, rfl⟩ := q_batch hb
  exact ⟨⟨a, b, c, d, e⟩, rfl⟩
end Go.Proofs.YtpdmaenhenfofaaGreatDoor
