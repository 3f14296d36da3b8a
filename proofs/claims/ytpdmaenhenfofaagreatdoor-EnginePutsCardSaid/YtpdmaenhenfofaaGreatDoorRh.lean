/- Contracts of references: the bytes of entries. -/
import Derived.Test.YtpdmaenhenfofaaGreatDoorRg
set_option linter.unusedVariables false
set_option linter.unusedSimpArgs false
namespace Go.Proofs.YtpdmaenhenfofaaGreatDoor
open Go.Am
attribute [local irreducible] Decidable.decide
set_option maxRecDepth 100000
set_option maxHeartbeats 1000000

def seenB (s : Seen) : Bs := nums [s.seq, s.count, s.base + 1]
def entryB (x : Entry) : Bs := UInt8.ofNat x.kind.toNat ::
  (if x.kind = 0 then batchB x.b
  else if x.kind = 1 then nums [x.b.pid, x.b.epoch] ++ flagB x.yes
  else if x.kind = 2 then nums [x.offset]
  else if x.kind = 3 then batchB x.b ++ flagB x.yes ++ (if x.yes then nums [x.next] else [])
  else if x.kind = 4 then nums [x.b.pid, x.b.epoch] ++ nums [x.next]
  else if x.kind = 5 then nums [x.row.pid, x.row.seq] ++ textB x.row.key ++ textB x.row.value
  else nums [x.prod.pid, x.prod.epoch, x.prod.next, x.prod.seen.length] ++ x.prod.seen.flatMap seenB)

theorem batchB_len {b : Batch} (h : mayBatch b = true) : (batchB b).length ≤ 1000 := by
  simp only [mayBatch, Bool.and_eq_true, decide_eq_true_eq] at h
  obtain ⟨hbd, hall⟩ := h
  unfold boundsB at hbd
  have l1 := vint_len6 (n := b.pid.toNat) (by omega)
  have l2 := vint_len6 (n := b.epoch.toNat) (by omega)
  have l3 := vint_len6 (n := b.seq.toNat) (by omega)
  have l4 := vint_len6 (n := b.recs.length) (by omega)
  have l5 := recs_len hall
  unfold batchB
  simp only [List.length_append, flagB, List.length_cons, List.length_nil]; omega

theorem mayE_kind {x : Entry} (h : mayE x = true) : x.kind = 0 ∨ x.kind = 1 ∨ x.kind = 2 ∨ x.kind = 3 ∨ x.kind = 4 ∨ x.kind = 5 ∨ x.kind = 6 := by
  unfold mayE at h
  simp only [Bool.and_eq_true] at h
  have h := h.2
  repeat (split at h; · simp [*])
  cases h

theorem mayE_alt {x : Entry} (h : mayE x = true) : x = bareE x ∧ (if x.kind = 0 then mayBatch x.b = true
  else if x.kind = 1 then (1 ≤ x.b.pid ∧ x.b.pid ≤ 8 ∧ 0 ≤ x.b.epoch ∧ x.b.epoch ≤ 100)
  else if x.kind = 2 then (0 ≤ x.offset ∧ x.offset ≤ 1048576)
  else if x.kind = 3 then mayBatch x.b = true ∧ x.b.txn = true ∧ (0 ≤ x.next ∧ x.next ≤ 1048576)
  else if x.kind = 4 then (1 ≤ x.b.pid ∧ x.b.pid ≤ 8 ∧ 0 ≤ x.b.epoch ∧ x.b.epoch ≤ 100) ∧ (0 ≤ x.next ∧ x.next ≤ 1048576)
  else if x.kind = 5 then mayRow x.row = true
  else x.kind = 6 ∧ knownP x.prod = true) := by
  unfold mayE isBare at h
  simp only [Bool.and_eq_true, decide_eq_true_eq] at h
  obtain ⟨h1, h⟩ := h
  refine ⟨h1, ?_⟩
  clear h1
  repeat (split at h; · simp_all)
  cases h

theorem kb_enc {k : Int} {kb : UInt8} (h : k = (kb.toNat : Int)) : chunk 1 1 [T.int .u8 (IntKind.u8.wrap k)] = [kb].map encByte := by
  have h1 : IntKind.u8.wrap k = (kb.toNat : Int) := by
    subst h
    have := kb.toNat_lt
    simp [IntKind.wrap, IntKind.bits, IntKind.signed]; omega
  rw [h1]; rfl

theorem bytes7_0 (x : Entry) (hk : x.kind = 0) (hm : mayE x = true) (ha : x.b.recs.length ≤ 1000000) (hp : x.prod.seen.length ≤ 1000000) : Ct Tryz.prog 34 [.agg (liftT (encEntry x))] [] (.tuple [.t (.str (0 :: batchB x.b)), .t (.int .i64 0)]) [] := by
  have hma := (mayE_alt hm).2
  simp only [hk, if_true] at hma
  have hbl := batchB_len hma
  have hkb := kb_enc (k := x.kind) (kb := 0) hk
  refine ct0 progOk Tryz.func34 rfl false rfl rfl ?_
  have cm : Ct Tryz.prog 63 [.agg (liftT (encEntry x))] [] (.t (.bool true)) [] := hm ▸ may7_ok x ha hp
  repeat' (first | refine w_stepZ progOk rfl rfl rfl rfl rfl ?_ | refine w_step progOk rfl rfl rfl ?_ | refine w_nil ?_ | refine w_seq ?_ | refine w_reg progOk rfl rfl ?_ | (refine w_gTP rfl rfl rfl rfl rfl (ht := fun h => ?_) (hf := fun h => ?_) <;> try exact prn) | (refine w_gFP rfl rfl rfl rfl rfl (ht := fun h => ?_) (hf := fun h => ?_) <;> try exact prn) | refine w_guardU rfl rfl rfl rfl rfl ?_ | (refine w_condP rfl (ht := fun h => ?_) (hf := fun h => ?_) <;> try exact prn) | refine w_block ?_ | refine w_skip ?_ | refine w_exit ?_ | refine w_ret ?_ | refine w_index progOk rfl rfl rfl rfl rfl rfl rfl (map_get (by assumption)) rfl ?_ | refine w_indexE progOk rfl rfl rfl rfl rfl rfl rfl (by assumption) (map_get (by assumption)) rfl ?_ | refine w_appNil progOk rfl rfl rfl rfl rfl rfl rfl rfl rfl rfl rfl rfl rfl (by simp [chunk]; omega) ?_ | refine w_appRow progOk rfl rfl rfl rfl rfl rfl rfl rfl rfl rfl rfl rfl rfl rfl (by simp [chunk]; omega) ?_ | refine s_step rfl rfl rfl rfl ?_ | refine s_nil ?_ | (refine s_gTP rfl rfl rfl rfl rfl (ht := fun h => ?_) (hf := fun h => ?_) <;> try exact prn) | (refine s_gFP rfl rfl rfl rfl rfl (ht := fun h => ?_) (hf := fun h => ?_) <;> try exact prn) | refine s_guardU rfl rfl rfl rfl rfl ?_ | refine s_index rfl rfl rfl rfl rfl rfl rfl (map_get (by assumption)) rfl ?_ | refine w_call progOk rfl rfl rfl rfl rfl rfl rfl (cm) rfl rfl ?_ | refine w_call progOk rfl rfl rfl rfl rfl rfl rfl (bytes6_ok x.b hma) rfl rfl ?_ | refine w_appStrFull progOk rfl rfl rfl rfl rfl rfl rfl rfl rfl rfl rfl rfl (by simp [chunk, bytesE_len]; omega) ?_ | refine w_convS (s := 0 :: batchB x.b) progOk rfl rfl rfl rfl rfl rfl (by rw [show ti5.size = 1 from rfl, hkb]; rfl) rfl ?_ | fail)
  exact w_fin rfl (Sub.refl _)

theorem bytes7_1 (x : Entry) (hk : x.kind = 1) (hm : mayE x = true) (ha : x.b.recs.length ≤ 1000000) (hp : x.prod.seen.length ≤ 1000000) : Ct Tryz.prog 34 [.agg (liftT (encEntry x))] [] (.tuple [.t (.str ([1] ++ nums [x.b.pid, x.b.epoch] ++ flagB x.yes)), .t (.int .i64 0)]) [] := by
  have hma := (mayE_alt hm).2
  simp only [hk, if_true, Int.reduceEq, if_false] at hma
  have hkb := kb_enc (k := x.kind) (kb := 1) hk
  have hS1 : Sub (.t (.slice .full 1 (chunk 1 1 [T.int .u8 (IntKind.u8.wrap x.kind)]))) (.t (.slice .any 1 ([1].map encByte))) := hkb ▸ sub_slice
  refine ct0 progOk Tryz.func34 rfl false rfl rfl ?_
  have cm : Ct Tryz.prog 63 [.agg (liftT (encEntry x))] [] (.t (.bool true)) [] := hm ▸ may7_ok x ha hp
  have hnl : (nums [x.b.pid, x.b.epoch]).length ≤ 100 := by
    have l1 := vint_len6 (n := x.b.pid.toNat) (by omega)
    have l2 := vint_len6 (n := x.b.epoch.toNat) (by omega)
    simp [nums]; omega
  repeat' (first | refine w_stepZ progOk rfl rfl rfl rfl rfl ?_ | refine w_step progOk rfl rfl rfl ?_ | refine w_nil ?_ | refine w_seq ?_ | refine w_reg progOk rfl rfl ?_ | (refine w_gTP rfl rfl rfl rfl rfl (ht := fun h => ?_) (hf := fun h => ?_) <;> try exact prn) | (refine w_gFP rfl rfl rfl rfl rfl (ht := fun h => ?_) (hf := fun h => ?_) <;> try exact prn) | refine w_guardU rfl rfl rfl rfl rfl ?_ | (refine w_condP rfl (ht := fun h => ?_) (hf := fun h => ?_) <;> try exact prn) | refine w_block ?_ | refine w_skip ?_ | refine w_exit ?_ | refine w_ret ?_ | refine w_index progOk rfl rfl rfl rfl rfl rfl rfl (map_get (by assumption)) rfl ?_ | refine w_indexE progOk rfl rfl rfl rfl rfl rfl rfl (by assumption) (map_get (by assumption)) rfl ?_ | refine w_appNil progOk rfl rfl rfl rfl rfl rfl rfl rfl rfl rfl rfl rfl rfl (by simp [chunk]; omega) ?_ | refine w_appRow progOk rfl rfl rfl rfl rfl rfl rfl rfl rfl rfl rfl rfl rfl rfl (by simp [chunk]; omega) ?_ | refine s_step rfl rfl rfl rfl ?_ | refine s_nil ?_ | (refine s_gTP rfl rfl rfl rfl rfl (ht := fun h => ?_) (hf := fun h => ?_) <;> try exact prn) | (refine s_gFP rfl rfl rfl rfl rfl (ht := fun h => ?_) (hf := fun h => ?_) <;> try exact prn) | refine s_guardU rfl rfl rfl rfl rfl ?_ | refine s_index rfl rfl rfl rfl rfl rfl rfl (map_get (by assumption)) rfl ?_ | refine w_call progOk rfl rfl rfl rfl rfl rfl rfl (cm) rfl rfl ?_ | refine w_callZ progOk rfl rfl rfl rfl (numbers_ok [1] [x.b.pid, x.b.epoch] (by simp; omega) (by simp) (by simp)) rfl rfl rfl ⟨hS1, sub_slice, trivial⟩ ?_ | refine w_call progOk rfl rfl rfl rfl rfl rfl rfl (flag_ok _ _ (by simp only [List.length_append, List.length_cons, List.length_nil, flagB]; omega)) rfl rfl ?_ | refine w_convS progOk rfl rfl rfl rfl rfl rfl (bytesE_eq _).symm rfl ?_ | fail)
  exact w_fin rfl (Sub.refl _)

end Go.Proofs.YtpdmaenhenfofaaGreatDoor
