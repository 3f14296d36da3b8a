/- Contracts of references: the bytes of entries, kind by kind. -/
import Derived.Test.YtpdmaenhenfofaaGreatDoorRh
set_option linter.unusedVariables false
set_option linter.unusedSimpArgs false
namespace Go.Proofs.YtpdmaenhenfofaaGreatDoor
open Go.Am
attribute [local irreducible] Decidable.decide
set_option maxRecDepth 100000
set_option maxHeartbeats 1000000

theorem bytes7_2 (x : Entry) (hk : x.kind = 2) (hm : mayE x = true) (ha : x.b.recs.length ≤ 1000000) (hp : x.prod.seen.length ≤ 1000000) : Ct Tryz.prog 34 [.agg (liftT (encEntry x))] [] (.tuple [.t (.str ([2] ++ nums [x.offset])), .t (.int .i64 0)]) [] := by
  have hma := (mayE_alt hm).2
  simp only [hk, if_true, Int.reduceEq, if_false] at hma
  have hkb := kb_enc (k := x.kind) (kb := 2) hk
  have hS1 : Sub (.t (.slice .full 1 (chunk 1 1 [T.int .u8 (IntKind.u8.wrap x.kind)]))) (.t (.slice .any 1 ([2].map encByte))) := hkb ▸ sub_slice
  refine ct0 progOk Tryz.func34 rfl false rfl rfl ?_
  have cm : Ct Tryz.prog 63 [.agg (liftT (encEntry x))] [] (.t (.bool true)) [] := hm ▸ may7_ok x ha hp
  repeat' (first | refine w_stepZ progOk rfl rfl rfl rfl rfl ?_ | refine w_step progOk rfl rfl rfl ?_ | refine w_nil ?_ | refine w_seq ?_ | refine w_reg progOk rfl rfl ?_ | (refine w_gTP rfl rfl rfl rfl rfl (ht := fun h => ?_) (hf := fun h => ?_) <;> try exact prn) | (refine w_gFP rfl rfl rfl rfl rfl (ht := fun h => ?_) (hf := fun h => ?_) <;> try exact prn) | refine w_guardU rfl rfl rfl rfl rfl ?_ | (refine w_condP rfl (ht := fun h => ?_) (hf := fun h => ?_) <;> try exact prn) | refine w_block ?_ | refine w_skip ?_ | refine w_exit ?_ | refine w_ret ?_ | refine w_index progOk rfl rfl rfl rfl rfl rfl rfl (map_get (by assumption)) rfl ?_ | refine w_indexE progOk rfl rfl rfl rfl rfl rfl rfl (by assumption) (map_get (by assumption)) rfl ?_ | refine w_appNil progOk rfl rfl rfl rfl rfl rfl rfl rfl rfl rfl rfl rfl rfl (by simp [chunk]; omega) ?_ | refine w_appRow progOk rfl rfl rfl rfl rfl rfl rfl rfl rfl rfl rfl rfl rfl rfl (by simp [chunk]; omega) ?_ | refine s_step rfl rfl rfl rfl ?_ | refine s_nil ?_ | (refine s_gTP rfl rfl rfl rfl rfl (ht := fun h => ?_) (hf := fun h => ?_) <;> try exact prn) | (refine s_gFP rfl rfl rfl rfl rfl (ht := fun h => ?_) (hf := fun h => ?_) <;> try exact prn) | refine s_guardU rfl rfl rfl rfl rfl ?_ | refine s_index rfl rfl rfl rfl rfl rfl rfl (map_get (by assumption)) rfl ?_ | refine w_call progOk rfl rfl rfl rfl rfl rfl rfl (cm) rfl rfl ?_ | refine w_callZ progOk rfl rfl rfl rfl (numbers_ok [2] [x.offset] (by simp; omega) (by simp) (by simp)) rfl rfl rfl ⟨hS1, sub_slice, trivial⟩ ?_ | refine w_convS progOk rfl rfl rfl rfl rfl rfl (bytesE_eq _).symm rfl ?_ | fail)
  exact w_fin rfl (Sub.refl _)

theorem bytes7_3 (x : Entry) (hk : x.kind = 3) (hm : mayE x = true) (ha : x.b.recs.length ≤ 1000000) (hp : x.prod.seen.length ≤ 1000000) : Ct Tryz.prog 34 [.agg (liftT (encEntry x))] [] (.tuple [.t (.str ([3] ++ batchB x.b ++ flagB x.yes ++ (if x.yes = true then nums [x.next] else []))), .t (.int .i64 0)]) [] := by
  have hma := (mayE_alt hm).2
  simp only [hk, if_true, Int.reduceEq, if_false] at hma
  have hkb := kb_enc (k := x.kind) (kb := 3) hk
  have hS1 : Sub (.t (.slice .full 1 (chunk 1 1 [T.int .u8 (IntKind.u8.wrap x.kind)]))) (.t (.slice .any 1 ([3].map encByte))) := hkb ▸ sub_slice
  refine ct0 progOk Tryz.func34 rfl false rfl rfl ?_
  have cm : Ct Tryz.prog 63 [.agg (liftT (encEntry x))] [] (.t (.bool true)) [] := hm ▸ may7_ok x ha hp
  obtain ⟨hmb, htx, hn0, hn1⟩ := hma
  have hbl := batchB_len hmb
  have hS2 : Sub (.t (.slice .any 1 (chunk 1 1 [T.int .u8 (IntKind.u8.wrap x.kind)] ++ bytesE (batchB x.b)))) (.t (.slice .any 1 (([3] ++ batchB x.b).map encByte))) := Sub.of_eq (by rw [hkb]; rfl)
  repeat' (first | refine w_stepZ progOk rfl rfl rfl rfl rfl ?_ | refine w_step progOk rfl rfl rfl ?_ | refine w_nil ?_ | refine w_seq ?_ | refine w_reg progOk rfl rfl ?_ | (refine w_gTP rfl rfl rfl rfl rfl (ht := fun h => ?_) (hf := fun h => ?_) <;> try exact prn) | (refine w_gFP rfl rfl rfl rfl rfl (ht := fun h => ?_) (hf := fun h => ?_) <;> try exact prn) | refine w_guardU rfl rfl rfl rfl rfl ?_ | (refine w_condP rfl (ht := fun h => ?_) (hf := fun h => ?_) <;> try exact prn) | refine w_block ?_ | refine w_skip ?_ | refine w_exit ?_ | refine w_ret ?_ | refine w_index progOk rfl rfl rfl rfl rfl rfl rfl (map_get (by assumption)) rfl ?_ | refine w_indexE progOk rfl rfl rfl rfl rfl rfl rfl (by assumption) (map_get (by assumption)) rfl ?_ | refine w_appNil progOk rfl rfl rfl rfl rfl rfl rfl rfl rfl rfl rfl rfl rfl (by simp [chunk]; omega) ?_ | refine w_appRow progOk rfl rfl rfl rfl rfl rfl rfl rfl rfl rfl rfl rfl rfl rfl (by simp [chunk]; omega) ?_ | refine s_step rfl rfl rfl rfl ?_ | refine s_nil ?_ | (refine s_gTP rfl rfl rfl rfl rfl (ht := fun h => ?_) (hf := fun h => ?_) <;> try exact prn) | (refine s_gFP rfl rfl rfl rfl rfl (ht := fun h => ?_) (hf := fun h => ?_) <;> try exact prn) | refine s_guardU rfl rfl rfl rfl rfl ?_ | refine s_index rfl rfl rfl rfl rfl rfl rfl (map_get (by assumption)) rfl ?_ | refine w_call progOk rfl rfl rfl rfl rfl rfl rfl (cm) rfl rfl ?_ | refine w_call progOk rfl rfl rfl rfl rfl rfl rfl (bytes6_ok x.b hmb) rfl rfl ?_ | refine w_appStrFull progOk rfl rfl rfl rfl rfl rfl rfl rfl rfl rfl rfl rfl (by simp [chunk, bytesE_len]; omega) ?_ | refine w_callZ progOk rfl rfl rfl rfl (flag_ok ([3] ++ batchB x.b) x.yes (by simp only [List.length_append, List.length_cons, List.length_nil, flagB]; omega)) rfl rfl rfl ⟨hS2, Sub.refl _, trivial⟩ ?_ | refine w_callZ progOk rfl rfl rfl rfl (numbers_ok _ [x.next] (by simp; omega) (by simp) (by simp only [List.length_append, List.length_cons, List.length_nil, flagB]; omega)) rfl rfl rfl ⟨Sub.refl _, sub_slice, trivial⟩ ?_ | refine w_convS progOk rfl rfl rfl rfl rfl rfl (bytesE_eq _).symm rfl ?_ | fail)
  · have hy : x.yes = true := by assumption
    refine w_fin rfl (Sub.of_eq ?_); simp [hy, flagB]
  · have hy : ¬ x.yes = true := by assumption
    refine w_fin rfl (Sub.of_eq ?_); simp [hy, flagB]

theorem bytes7_4 (x : Entry) (hk : x.kind = 4) (hm : mayE x = true) (ha : x.b.recs.length ≤ 1000000) (hp : x.prod.seen.length ≤ 1000000) : Ct Tryz.prog 34 [.agg (liftT (encEntry x))] [] (.tuple [.t (.str ([4] ++ nums [x.b.pid, x.b.epoch] ++ nums [x.next])), .t (.int .i64 0)]) [] := by
  have hma := (mayE_alt hm).2
  simp only [hk, if_true, Int.reduceEq, if_false] at hma
  have hkb := kb_enc (k := x.kind) (kb := 4) hk
  have hS1 : Sub (.t (.slice .full 1 (chunk 1 1 [T.int .u8 (IntKind.u8.wrap x.kind)]))) (.t (.slice .any 1 ([4].map encByte))) := hkb ▸ sub_slice
  refine ct0 progOk Tryz.func34 rfl false rfl rfl ?_
  have cm : Ct Tryz.prog 63 [.agg (liftT (encEntry x))] [] (.t (.bool true)) [] := hm ▸ may7_ok x ha hp
  have hnl : (nums [x.b.pid, x.b.epoch]).length ≤ 100 := by
    have l1 := vint_len6 (n := x.b.pid.toNat) (by omega)
    have l2 := vint_len6 (n := x.b.epoch.toNat) (by omega)
    simp [nums]; omega
  repeat' (first | refine w_stepZ progOk rfl rfl rfl rfl rfl ?_ | refine w_step progOk rfl rfl rfl ?_ | refine w_nil ?_ | refine w_seq ?_ | refine w_reg progOk rfl rfl ?_ | (refine w_gTP rfl rfl rfl rfl rfl (ht := fun h => ?_) (hf := fun h => ?_) <;> try exact prn) | (refine w_gFP rfl rfl rfl rfl rfl (ht := fun h => ?_) (hf := fun h => ?_) <;> try exact prn) | refine w_guardU rfl rfl rfl rfl rfl ?_ | (refine w_condP rfl (ht := fun h => ?_) (hf := fun h => ?_) <;> try exact prn) | refine w_block ?_ | refine w_skip ?_ | refine w_exit ?_ | refine w_ret ?_ | refine w_index progOk rfl rfl rfl rfl rfl rfl rfl (map_get (by assumption)) rfl ?_ | refine w_indexE progOk rfl rfl rfl rfl rfl rfl rfl (by assumption) (map_get (by assumption)) rfl ?_ | refine w_appNil progOk rfl rfl rfl rfl rfl rfl rfl rfl rfl rfl rfl rfl rfl (by simp [chunk]; omega) ?_ | refine w_appRow progOk rfl rfl rfl rfl rfl rfl rfl rfl rfl rfl rfl rfl rfl rfl (by simp [chunk]; omega) ?_ | refine s_step rfl rfl rfl rfl ?_ | refine s_nil ?_ | (refine s_gTP rfl rfl rfl rfl rfl (ht := fun h => ?_) (hf := fun h => ?_) <;> try exact prn) | (refine s_gFP rfl rfl rfl rfl rfl (ht := fun h => ?_) (hf := fun h => ?_) <;> try exact prn) | refine s_guardU rfl rfl rfl rfl rfl ?_ | refine s_index rfl rfl rfl rfl rfl rfl rfl (map_get (by assumption)) rfl ?_ | refine w_call progOk rfl rfl rfl rfl rfl rfl rfl (cm) rfl rfl ?_ | refine w_callZ progOk rfl rfl rfl rfl (numbers_ok [4] [x.b.pid, x.b.epoch] (by simp; omega) (by simp) (by simp)) rfl rfl rfl ⟨hS1, sub_slice, trivial⟩ ?_ | refine w_callZ progOk rfl rfl rfl rfl (numbers_ok _ [x.next] (by simp; omega) (by simp) (by simp only [List.length_append, List.length_cons, List.length_nil, flagB]; omega)) rfl rfl rfl ⟨Sub.refl _, sub_slice, trivial⟩ ?_ | refine w_convS progOk rfl rfl rfl rfl rfl rfl (bytesE_eq _).symm rfl ?_ | fail)
  exact w_fin rfl (Sub.refl _)

theorem bytes7_5 (x : Entry) (hk : x.kind = 5) (hm : mayE x = true) (ha : x.b.recs.length ≤ 1000000) (hp : x.prod.seen.length ≤ 1000000) : Ct Tryz.prog 34 [.agg (liftT (encEntry x))] [] (.tuple [.t (.str ([5] ++ nums [x.row.pid, x.row.seq] ++ textB x.row.key ++ textB x.row.value)), .t (.int .i64 0)]) [] := by
  have hma := (mayE_alt hm).2
  simp only [hk, if_true, Int.reduceEq, if_false] at hma
  have hkb := kb_enc (k := x.kind) (kb := 5) hk
  have hS1 : Sub (.t (.slice .full 1 (chunk 1 1 [T.int .u8 (IntKind.u8.wrap x.kind)]))) (.t (.slice .any 1 ([5].map encByte))) := hkb ▸ sub_slice
  refine ct0 progOk Tryz.func34 rfl false rfl rfl ?_
  have cm : Ct Tryz.prog 63 [.agg (liftT (encEntry x))] [] (.t (.bool true)) [] := hm ▸ may7_ok x ha hp
  simp only [mayRow, decide_eq_true_eq] at hma
  have hnl : (nums [x.row.pid, x.row.seq]).length ≤ 100 := by
    have l1 := vint_len6 (n := x.row.pid.toNat) (by omega)
    have l2 := vint_len6 (n := x.row.seq.toNat) (by omega)
    simp [nums]; omega
  have hl6 := textB_len (s := x.row.key) (by omega)
  repeat' (first | refine w_stepZ progOk rfl rfl rfl rfl rfl ?_ | refine w_step progOk rfl rfl rfl ?_ | refine w_nil ?_ | refine w_seq ?_ | refine w_reg progOk rfl rfl ?_ | (refine w_gTP rfl rfl rfl rfl rfl (ht := fun h => ?_) (hf := fun h => ?_) <;> try exact prn) | (refine w_gFP rfl rfl rfl rfl rfl (ht := fun h => ?_) (hf := fun h => ?_) <;> try exact prn) | refine w_guardU rfl rfl rfl rfl rfl ?_ | (refine w_condP rfl (ht := fun h => ?_) (hf := fun h => ?_) <;> try exact prn) | refine w_block ?_ | refine w_skip ?_ | refine w_exit ?_ | refine w_ret ?_ | refine w_index progOk rfl rfl rfl rfl rfl rfl rfl (map_get (by assumption)) rfl ?_ | refine w_indexE progOk rfl rfl rfl rfl rfl rfl rfl (by assumption) (map_get (by assumption)) rfl ?_ | refine w_appNil progOk rfl rfl rfl rfl rfl rfl rfl rfl rfl rfl rfl rfl rfl (by simp [chunk]; omega) ?_ | refine w_appRow progOk rfl rfl rfl rfl rfl rfl rfl rfl rfl rfl rfl rfl rfl rfl (by simp [chunk]; omega) ?_ | refine s_step rfl rfl rfl rfl ?_ | refine s_nil ?_ | (refine s_gTP rfl rfl rfl rfl rfl (ht := fun h => ?_) (hf := fun h => ?_) <;> try exact prn) | (refine s_gFP rfl rfl rfl rfl rfl (ht := fun h => ?_) (hf := fun h => ?_) <;> try exact prn) | refine s_guardU rfl rfl rfl rfl rfl ?_ | refine s_index rfl rfl rfl rfl rfl rfl rfl (map_get (by assumption)) rfl ?_ | refine w_call progOk rfl rfl rfl rfl rfl rfl rfl (cm) rfl rfl ?_ | refine w_callZ progOk rfl rfl rfl rfl (numbers_ok [5] [x.row.pid, x.row.seq] (by simp; omega) (by simp) (by simp)) rfl rfl rfl ⟨hS1, sub_slice, trivial⟩ ?_ | refine w_call progOk rfl rfl rfl rfl rfl rfl rfl (text_ok _ x.row.key (by omega) (by simp only [List.length_append, List.length_cons, List.length_nil, flagB]; omega)) rfl rfl ?_ | refine w_call progOk rfl rfl rfl rfl rfl rfl rfl (text_ok _ x.row.value (by omega) (by simp only [List.length_append, List.length_cons, List.length_nil, flagB]; omega)) rfl rfl ?_ | refine w_convS progOk rfl rfl rfl rfl rfl rfl (bytesE_eq _).symm rfl ?_ | fail)
  exact w_fin rfl (Sub.refl _)

end Go.Proofs.YtpdmaenhenfofaaGreatDoor
