/- More shapes of arguments: numbers, structs. -/
import Derived.Test.YtpdmaenhenfofaaGreatDoorZFa
set_option linter.unusedVariables false
set_option linter.unusedSimpArgs false
namespace Go.Proofs.YtpdmaenhenfofaaGreatDoor
open Go.Am Go.ChangeShapes Go.WideShapes Go.RowKit
set_option maxRecDepth 100000
theorem one_of_int {W : World} {base : Nat} {t : TypeId} {k : IntKind} {v : Value} (hu : Tryz.prog.underlying t = some (.int k)) (h : Value.okWide Tryz.prog W .any base t v) : v.cells.toList = [v] := by
  cases v <;> simp [Value.okWide, hu, Cell.okWide, Cell.ok] at h <;> simp [Value.cells]
theorem rel_of_struct {W : World} {base : Nat} {t : TypeId} {fs : Array Field} {v : Value} {xs : List T} (hu : Tryz.prog.underlying t = some (.struct fs)) (h : Value.okWide Tryz.prog W .any base t v) (hr : RelC W v.cells.toList xs) : Rel W g00 v (.agg (liftT xs)) := by
  unfold Value.okWide at h
  rw [hu] at h
  obtain ⟨cs, rfl, _, _⟩ := h
  have hc : (Value.agg cs).cells.toList = cs.toList := rfl
  rw [hc] at hr
  have : Value.agg cs = Value.agg cs.toList.toArray := by simp
  rw [this]
  refine .agg cs.toList (liftT xs) (by rw [liftT_len]; exact hr.1) fun i v x hv hx => ?_
  rw [liftT_get] at hx
  cases hxi : xs[i]? with
  | none => simp [hxi] at hx
  | some y =>
    simp [hxi] at hx; subst hx
    exact .t _ _ (relT_g00 (hr.2 i v y hv hxi))
end Go.Proofs.YtpdmaenhenfofaaGreatDoor
