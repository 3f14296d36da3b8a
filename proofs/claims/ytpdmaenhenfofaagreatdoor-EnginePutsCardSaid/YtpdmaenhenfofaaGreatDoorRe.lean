/- Contracts of references: entries that are the same, bare entries. -/
import Derived.Test.YtpdmaenhenfofaaGreatDoorRd
set_option linter.unusedVariables false
set_option linter.unusedSimpArgs false
namespace Go.Proofs.YtpdmaenhenfofaaGreatDoor
open Go.Am
attribute [local irreducible] Decidable.decide
set_option maxRecDepth 100000
set_option maxHeartbeats 1000000

theorem same7_ok (a b : Entry) (ha : a.b.recs.length ≤ 1000000) (hp : a.prod.seen.length ≤ 1000000) : Ct Tryz.prog 115 [.agg (liftT (encEntry a)), .agg (liftT (encEntry b))] [] (.t (.bool (decide (a = b)))) [] := by
  refine ct0 progOk Tryz.func115 rfl false rfl rfl ?_
  repeat' (first | refine w_stepZ progOk rfl rfl rfl rfl rfl ?_ | refine w_step progOk rfl rfl rfl ?_ | refine w_nil ?_ | refine w_seq ?_ | refine w_reg progOk rfl rfl ?_ | (refine w_gTP rfl rfl rfl rfl rfl (ht := fun h => ?_) (hf := fun h => ?_) <;> try exact prn) | (refine w_gFP rfl rfl rfl rfl rfl (ht := fun h => ?_) (hf := fun h => ?_) <;> try exact prn) | refine w_guardU rfl rfl rfl rfl rfl ?_ | (refine w_condP rfl (ht := fun h => ?_) (hf := fun h => ?_) <;> try exact prn) | refine w_block ?_ | refine w_skip ?_ | refine w_exit ?_ | refine w_ret ?_ | refine w_index progOk rfl rfl rfl rfl rfl rfl rfl (map_get (by assumption)) rfl ?_ | refine w_indexE progOk rfl rfl rfl rfl rfl rfl rfl (by assumption) (map_get (by assumption)) rfl ?_ | refine w_appNil progOk rfl rfl rfl rfl rfl rfl rfl rfl rfl rfl rfl rfl rfl (by simp [chunk]; omega) ?_ | refine w_appRow progOk rfl rfl rfl rfl rfl rfl rfl rfl rfl rfl rfl rfl rfl rfl (by simp [chunk]; omega) ?_ | refine s_step rfl rfl rfl rfl ?_ | refine s_nil ?_ | (refine s_gTP rfl rfl rfl rfl rfl (ht := fun h => ?_) (hf := fun h => ?_) <;> try exact prn) | (refine s_gFP rfl rfl rfl rfl rfl (ht := fun h => ?_) (hf := fun h => ?_) <;> try exact prn) | refine s_guardU rfl rfl rfl rfl rfl ?_ | refine s_index rfl rfl rfl rfl rfl rfl rfl (map_get (by assumption)) rfl ?_ | refine w_call progOk rfl rfl rfl rfl rfl rfl rfl (same6_ok a.b b.b ha) rfl rfl ?_ | refine w_call progOk rfl rfl rfl rfl rfl rfl rfl (sameProd7_ok a.prod b.prod hp) rfl rfl ?_ | refine s_call rfl rfl rfl rfl rfl (same6_ok a.b b.b ha) rfl rfl ?_ | refine s_call rfl rfl rfl rfl rfl (sameProd7_ok a.prod b.prod hp) rfl rfl ?_ | fail)
  · refine w_fin rfl (subB (bI ?_))
    rcases a with ⟨k1, b1, y1, n1, o1, ⟨ro1, rp1, rs1, rk1, rv1⟩, p1⟩
    rcases b with ⟨k2, b2, y2, n2, o2, ⟨ro2, rp2, rs2, rk2, rv2⟩, p2⟩
    simp at *; simp [*]
  all_goals exact w_fin rfl (subB (bF (fun e => by subst e; simp at *)))

def bareB (x : Entry) : Batch := ⟨x.b.pid, x.b.epoch, 0, false, []⟩
abbrev b0 : Batch := ⟨0, 0, 0, false, []⟩
abbrev row0 : Row := ⟨0, 0, 0, [], []⟩
abbrev prod0 : Prod := ⟨0, 0, 0, []⟩
def bareE (x : Entry) : Entry :=
  if x.kind = 0 then ⟨x.kind, x.b, false, 0, 0, row0, prod0⟩
  else if x.kind = 1 then ⟨x.kind, bareB x, x.yes, 0, 0, row0, prod0⟩
  else if x.kind = 2 then ⟨x.kind, b0, false, 0, x.offset, row0, prod0⟩
  else if x.kind = 3 then ⟨x.kind, x.b, x.yes, if x.yes = true then x.next else 0, 0, row0, prod0⟩
  else if x.kind = 4 then ⟨x.kind, bareB x, false, x.next, 0, row0, prod0⟩
  else if x.kind = 5 then ⟨x.kind, b0, false, 0, 0, ⟨0, x.row.pid, x.row.seq, x.row.key, x.row.value⟩, prod0⟩
  else if x.kind = 6 then ⟨x.kind, b0, false, 0, 0, row0, x.prod⟩
  else ⟨x.kind, b0, false, 0, 0, row0, prod0⟩

theorem bare_ok (x : Entry) : Ct Tryz.prog 116 [.agg (liftT (encEntry x))] [] (.agg (liftT (encEntry (bareE x)))) [] := by
  refine ct0 progOk Tryz.func116 rfl false rfl rfl ?_
  repeat' (first | refine w_stepZ progOk rfl rfl rfl rfl rfl ?_ | refine w_step progOk rfl rfl rfl ?_ | refine w_nil ?_ | refine w_seq ?_ | refine w_reg progOk rfl rfl ?_ | (refine w_gTP rfl rfl rfl rfl rfl (ht := fun h => ?_) (hf := fun h => ?_) <;> try exact prn) | (refine w_gFP rfl rfl rfl rfl rfl (ht := fun h => ?_) (hf := fun h => ?_) <;> try exact prn) | refine w_guardU rfl rfl rfl rfl rfl ?_ | (refine w_condP rfl (ht := fun h => ?_) (hf := fun h => ?_) <;> try exact prn) | refine w_block ?_ | refine w_skip ?_ | refine w_exit ?_ | refine w_ret ?_ | refine w_index progOk rfl rfl rfl rfl rfl rfl rfl (map_get (by assumption)) rfl ?_ | refine w_indexE progOk rfl rfl rfl rfl rfl rfl rfl (by assumption) (map_get (by assumption)) rfl ?_ | refine w_appNil progOk rfl rfl rfl rfl rfl rfl rfl rfl rfl rfl rfl rfl rfl (by simp [chunk]; omega) ?_ | refine w_appRow progOk rfl rfl rfl rfl rfl rfl rfl rfl rfl rfl rfl rfl rfl rfl (by simp [chunk]; omega) ?_ | refine s_step rfl rfl rfl rfl ?_ | refine s_nil ?_ | (refine s_gTP rfl rfl rfl rfl rfl (ht := fun h => ?_) (hf := fun h => ?_) <;> try exact prn) | (refine s_gFP rfl rfl rfl rfl rfl (ht := fun h => ?_) (hf := fun h => ?_) <;> try exact prn) | refine s_guardU rfl rfl rfl rfl rfl ?_ | refine s_index rfl rfl rfl rfl rfl rfl rfl (map_get (by assumption)) rfl ?_ | fail)
  all_goals (refine w_fin rfl ?_; unfold bareE; simp only [*, if_true, if_false, Int.reduceEq])
  all_goals repeat' (first | exact Sub.refl _ | exact sub_slNil | exact sub_slice | exact trivial | refine sub_agg ?_ | refine sub_tuple ?_ | refine And.intro ?_ ?_)

end Go.Proofs.YtpdmaenhenfofaaGreatDoor
