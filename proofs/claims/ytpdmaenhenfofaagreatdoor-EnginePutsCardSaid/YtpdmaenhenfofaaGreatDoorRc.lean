/- Contracts of references: what may be. -/
import Derived.Test.YtpdmaenhenfofaaGreatDoorRb
set_option linter.unusedVariables false
set_option linter.unusedSimpArgs false
namespace Go.Proofs.YtpdmaenhenfofaaGreatDoor
open Go.Am
attribute [local irreducible] Decidable.decide
set_option maxRecDepth 100000
set_option maxHeartbeats 1000000

def okRec (r : Rec) : Bool := decide ((r.key.length : Int) ≤ 16) && decide ((r.value.length : Int) ≤ 16)
theorem okRec_iff {r : Rec} : okRec r = true ↔ (r.key.length : Int) ≤ 16 ∧ (r.value.length : Int) ≤ 16 := by simp [okRec]
theorem okRec_no {r : Rec} (h : ¬ ((r.key.length : Int) ≤ 16 ∧ (r.value.length : Int) ≤ 16)) : okRec r = false := by rw [← Bool.not_eq_true, okRec_iff]; exact h
def boundsB (b : Batch) : Prop := 1 ≤ b.pid ∧ b.pid ≤ 8 ∧ 0 ≤ b.epoch ∧ b.epoch ≤ 100 ∧ 0 ≤ b.seq ∧ 1 ≤ b.recs.length ∧ b.recs.length ≤ 4 ∧ b.seq + b.recs.length ≤ 1048576
instance (b : Batch) : Decidable (boundsB b) := by unfold boundsB; infer_instance
def mayBatch (b : Batch) : Bool := decide (boundsB b) && b.recs.all okRec

theorem all_of_take {α : Type} {p : α → Bool} {l : List α} {i : Nat} {x : α} (h : l[i]? = some x) (ha : (l.take i).all p = true) (hp : p x = true) : (l.take (i + 1)).all p = true := by
  rw [take_succ h, List.all_append, ha]; simp [hp]
theorem all_not {α : Type} {p : α → Bool} {l : List α} {i : Nat} {x : α} (h : l[i]? = some x) (hp : p x = false) : l.all p = false := by
  rw [List.all_eq_false]; exact ⟨x, List.mem_of_getElem? h, by simp [hp]⟩
theorem all_end {α : Type} {p : α → Bool} {l : List α} {i : Nat} (h : l.length ≤ i) (ha : (l.take i).all p = true) : l.all p = true := by
  rwa [List.take_of_length_le h] at ha

theorem may_no {b : Batch} (h : ¬ boundsB b) : false = mayBatch b := by simp [mayBatch, h]
theorem may_rec {b : Batch} (h : b.recs.all okRec = false) : false = mayBatch b := by simp [mayBatch, h]
theorem may_yes {b : Batch} (h : boundsB b) (h2 : b.recs.all okRec = true) : true = mayBatch b := by simp [mayBatch, h, h2]

theorem may6_ok (b : Batch) : Ct Tryz.prog 117 [.agg (liftT (encBatch b))] [] (.t (.bool (mayBatch b))) [] := by
  refine ct0 progOk Tryz.func117 rfl false rfl rfl ?_
  repeat' (first | refine w_stepZ progOk rfl rfl rfl rfl rfl ?_ | refine w_step progOk rfl rfl rfl ?_ | refine w_nil ?_ | refine w_seq ?_ | refine w_reg progOk rfl rfl ?_ | (refine w_gTP rfl rfl rfl rfl rfl (ht := fun h => ?_) (hf := fun h => ?_) <;> try exact prn) | (refine w_gFP rfl rfl rfl rfl rfl (ht := fun h => ?_) (hf := fun h => ?_) <;> try exact prn) | refine w_guardU rfl rfl rfl rfl rfl ?_ | (refine w_condP rfl (ht := fun h => ?_) (hf := fun h => ?_) <;> try exact prn) | refine w_block ?_ | refine w_skip ?_ | refine w_exit ?_ | refine w_ret ?_ | refine w_index progOk rfl rfl rfl rfl rfl rfl rfl (map_get (by assumption)) rfl ?_ | refine w_indexE progOk rfl rfl rfl rfl rfl rfl rfl (by assumption) (map_get (by assumption)) rfl ?_ | refine w_appNil progOk rfl rfl rfl rfl rfl rfl rfl rfl rfl rfl rfl rfl rfl (by simp [chunk]; omega) ?_ | refine w_appRow progOk rfl rfl rfl rfl rfl rfl rfl rfl rfl rfl rfl rfl rfl rfl (by simp [chunk]; omega) ?_ | fail)
  all_goals try rw [List.length_map] at *
  all_goals try (refine w_fin rfl ?_; refine subB (may_no ?_); unfold boundsB; omega)
  · rw [wrap64 (by omega) (by omega)] at h
    refine w_fin rfl ?_; refine subB (may_no ?_); unfold boundsB; omega
  · rw [wrap64 (by omega) (by omega)] at h
    have hbd : boundsB b := by unfold boundsB; omega
    refine w_loop (ι := Nat) (fun i => i ≤ b.recs.length ∧ (b.recs.take i).all okRec = true) (fun i => [(1, .ref 2 0), (3, .t (.int .i64 i))]) (fun _ => [(2, .cells (liftT (encBatch b)))]) (fun i => b.recs.length - i) 0 (by simp) ?_ ?_
    · exact at_of [] (sub_eq rfl rfl (sub_eq rfl rfl sub_nil)) rfl
    rintro i ⟨hi, hall⟩
    by_cases hlt : i < b.recs.length
    · have hr : b.recs[i]? = some b.recs[i] := List.getElem?_eq_getElem hlt
      generalize b.recs[i] = r at hr
      repeat' (first | refine w_stepZ progOk rfl rfl rfl rfl rfl ?_ | refine w_step progOk rfl rfl rfl ?_ | refine w_nil ?_ | refine w_seq ?_ | refine w_reg progOk rfl rfl ?_ | (refine w_gTP rfl rfl rfl rfl rfl (ht := fun h => ?_) (hf := fun h => ?_) <;> try exact prn) | (refine w_gFP rfl rfl rfl rfl rfl (ht := fun h => ?_) (hf := fun h => ?_) <;> try exact prn) | refine w_guardU rfl rfl rfl rfl rfl ?_ | (refine w_condP rfl (ht := fun h => ?_) (hf := fun h => ?_) <;> try exact prn) | refine w_block ?_ | refine w_skip ?_ | refine w_exit ?_ | refine w_ret ?_ | refine w_index progOk rfl rfl rfl rfl rfl rfl rfl (map_get (by assumption)) rfl ?_ | refine w_indexE progOk rfl rfl rfl rfl rfl rfl rfl (by assumption) (map_get (by assumption)) rfl ?_ | refine w_appNil progOk rfl rfl rfl rfl rfl rfl rfl rfl rfl rfl rfl rfl rfl (by simp [chunk]; omega) ?_ | refine w_appRow progOk rfl rfl rfl rfl rfl rfl rfl rfl rfl rfl rfl rfl rfl rfl (by simp [chunk]; omega) ?_ | fail)
      · exact w_fin rfl (subB (may_rec (all_not hr (okRec_no (by omega)))))
      · refine w_next (i + 1) ⟨hlt, all_of_take hr hall (okRec_iff.2 (by omega))⟩ (by omega) [] (sub_eq rfl rfl (sub_eq rfl ?_ sub_nil)) rfl
        rw [wrap64 (by omega) (by omega)]; rfl
      · exact w_fin rfl (subB (may_rec (all_not hr (okRec_no (by omega)))))
    · repeat' (first | refine w_stepZ progOk rfl rfl rfl rfl rfl ?_ | refine w_step progOk rfl rfl rfl ?_ | refine w_nil ?_ | refine w_seq ?_ | refine w_reg progOk rfl rfl ?_ | (refine w_gTP rfl rfl rfl rfl rfl (ht := fun h => ?_) (hf := fun h => ?_) <;> try exact prn) | (refine w_gFP rfl rfl rfl rfl rfl (ht := fun h => ?_) (hf := fun h => ?_) <;> try exact prn) | refine w_guardU rfl rfl rfl rfl rfl ?_ | (refine w_condP rfl (ht := fun h => ?_) (hf := fun h => ?_) <;> try exact prn) | refine w_block ?_ | refine w_skip ?_ | refine w_exit ?_ | refine w_ret ?_ | refine w_index progOk rfl rfl rfl rfl rfl rfl rfl (map_get (by assumption)) rfl ?_ | refine w_indexE progOk rfl rfl rfl rfl rfl rfl rfl (by assumption) (map_get (by assumption)) rfl ?_ | refine w_appNil progOk rfl rfl rfl rfl rfl rfl rfl rfl rfl rfl rfl rfl rfl (by simp [chunk]; omega) ?_ | refine w_appRow progOk rfl rfl rfl rfl rfl rfl rfl rfl rfl rfl rfl rfl rfl rfl (by simp [chunk]; omega) ?_ | fail)
      exact w_fin rfl (subB (may_yes hbd (all_end (by omega) hall)))

end Go.Proofs.YtpdmaenhenfofaaGreatDoor
