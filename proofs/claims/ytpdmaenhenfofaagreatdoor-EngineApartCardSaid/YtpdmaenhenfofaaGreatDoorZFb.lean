/- More shapes of arguments: numbers, structs. -/
import Derived.Test.YtpdmaenhenfofaaGreatDoorZFa
set_option linter.unusedVariables false
set_option linter.unusedSimpArgs false
namespace Go.Proofs.YtpdmaenhenfofaaGreatDoor
open Go.Am Go.ChangeShapes Go.WideShapes Go.RowKit
set_option maxRecDepth 100000
theorem one_of_int {W : World} {base : Nat} {t : TypeId} {k : IntKind} {v : Value} (hu : Tryz.prog.underlying t = some (.int k)) (h : Value.okWide Tryz.prog W .any base t v) : v.cells.toList = [v] := by
  cases v <;> simp [Value.okWide, hu, Cell.okWide, Cell.ok] at h <;> simp [Value.cells]
theorem rel_of_struct {W : World} {base : Nat} {t : TypeId} {fs : Array Field} {v : Value} {xs : List T} (hu : Tryz.prog.underlying t = some (.struct fs)) (h : Value.okWide Tryz.prog W .any base t v) (hr : RelC W v.cells.toList xs) : Rel W g00 v (.agg (liftT xs)) := by
  unfold Value.okWide at h
  rw [hu] at h
  obtain ⟨cs, rfl, _, _⟩ := h
  have hc : (Value.agg cs).cells.toList = cs.toList := rfl
  rw [hc] at hr
  have : Value.agg cs = Value.agg cs.toList.toArray := by simp
  rw [this]
  refine .agg cs.toList (liftT xs) (by rw [liftT_len]; exact hr.1) fun i v x hv hx => ?_
  rw [liftT_get] at hx
  cases hxi : xs[i]? with
  | none => simp [hxi] at hx
  | some y =>
    simp [hxi] at hx; subst hx
    exact .t _ _ (relT_g00 (hr.2 i v y hv hxi))
def shOpn : Sh := .struct [.int .i64, .int .i64, .slice shBatch]
def shPart : Sh := .struct [.int .i64, .int .i64, .slice shRow, .slice shOpn, .slice shProd]
theorem q_opn {xs : List T} (h : shOpn.Q xs) : ∃ b, xs = encOpn b := by
  simp only [shOpn, Sh.Q, QL] at h
  obtain ⟨_, _, ⟨a, rfl⟩, ⟨_, _, ⟨b, rfl⟩, ⟨_, _, ⟨ess, hs, rfl⟩, rfl, rfl⟩, rfl⟩, rfl⟩ := h
  obtain ⟨l, rfl⟩ := all_map (f := encBatch) fun y hy => q_batch (hs y hy)
  exact ⟨⟨a, b, l⟩, rfl⟩
theorem q_part {xs : List T} (h : shPart.Q xs) : ∃ b, xs = encPart b := by
  simp only [shPart, Sh.Q, QL] at h
  obtain ⟨_, _, ⟨a, rfl⟩, ⟨_, _, ⟨b, rfl⟩, ⟨_, _, ⟨e1, h1, rfl⟩, ⟨_, _, ⟨e2, h2, rfl⟩, ⟨_, _, ⟨e3, h3, rfl⟩, rfl, rfl⟩, rfl⟩, rfl⟩, rfl⟩, rfl⟩ := h
  obtain ⟨l1, rfl⟩ := all_map (f := encRow) fun y hy => q_row (h1 y hy)
  obtain ⟨l2, rfl⟩ := all_map (f := encOpn) fun y hy => q_opn (h2 y hy)
  obtain ⟨l3, rfl⟩ := all_map (f := encProd) fun y hy => q_prod (h3 y hy)
  exact ⟨⟨a, b, l1, l2, l3⟩, rfl⟩
end Go.Proofs.YtpdmaenhenfofaaGreatDoor
