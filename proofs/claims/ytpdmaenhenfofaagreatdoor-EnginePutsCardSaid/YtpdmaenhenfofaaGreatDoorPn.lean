/- Contracts of the program: the bytes of entries. -/
import Derived.Test.YtpdmaenhenfofaaGreatDoorPm
import Derived.Test.YtpdmaenhenfofaaGreatDoorM5
set_option linter.unusedVariables false
set_option linter.unusedSimpArgs false
namespace Go.Proofs.YtpdmaenhenfofaaGreatDoor
open Go.Am
attribute [local irreducible] Decidable.decide
set_option maxRecDepth 100000
set_option maxHeartbeats 1000000

theorem writing0 : Ct Tryz.prog 110 [.t (.int .i8 0)] [] (.t (.func (.func 167) [] [])) [] := by
  refine ct0 progOk Tryz.func110 rfl false rfl rfl ?_
  repeat' (first | refine w_stepZ progOk rfl rfl rfl rfl rfl ?_ | refine w_step progOk rfl rfl rfl ?_ | refine w_nil ?_ | refine w_seq ?_ | refine w_reg progOk rfl rfl ?_ | (refine w_gTP rfl rfl rfl rfl rfl (ht := fun h => ?_) (hf := fun h => ?_) <;> try exact prn) | (refine w_gFP rfl rfl rfl rfl rfl (ht := fun h => ?_) (hf := fun h => ?_) <;> try exact prn) | refine w_guardU rfl rfl rfl rfl rfl ?_ | (refine w_condP rfl (ht := fun h => ?_) (hf := fun h => ?_) <;> try exact prn) | refine w_block ?_ | refine w_skip ?_ | refine w_exit ?_ | refine w_ret ?_ | refine w_index progOk rfl rfl rfl rfl rfl rfl rfl (map_get (by assumption)) rfl ?_ | refine w_indexE progOk rfl rfl rfl rfl rfl rfl rfl (by assumption) (map_get (by assumption)) rfl ?_ | refine w_appNil progOk rfl rfl rfl rfl rfl rfl rfl rfl rfl rfl rfl rfl rfl (by simp [chunk]; omega) ?_ | refine w_appRow progOk rfl rfl rfl rfl rfl rfl rfl rfl rfl rfl rfl rfl rfl rfl (by simp [chunk]; omega) ?_ | refine s_step rfl rfl rfl rfl ?_ | refine s_nil ?_ | (refine s_gTP rfl rfl rfl rfl rfl (ht := fun h => ?_) (hf := fun h => ?_) <;> try exact prn) | (refine s_gFP rfl rfl rfl rfl rfl (ht := fun h => ?_) (hf := fun h => ?_) <;> try exact prn) | refine s_guardU rfl rfl rfl rfl rfl ?_ | refine s_index rfl rfl rfl rfl rfl rfl rfl (map_get (by assumption)) rfl ?_ | refine w_buildA progOk rfl rfl rfl rfl rfl rfl rfl rfl ?_ | fail)
  exact w_fin rfl (Sub.of_eq rfl)

theorem ebytes0 (x : Entry) (hk : x.kind = 0) (hm : mayE x = true) (ha : x.b.recs.length ≤ 1000000) (hp : x.prod.seen.length ≤ 1000000) : Ct Tryz.prog 59 [.agg (liftT (encEntry x))] [] (.tuple [.t (.str (entryB x)), .t (.int .i64 0)]) [] := by
  have hma := (mayE_alt hm).2
  simp only [hk, if_true, if_false, Int.reduceEq, true_and] at hma
  skip
  have eB : entryB x = [0] ++ (batchB x.b) := by simp [entryB, hk, nums]
  rw [eB]
  have cm : Ct Tryz.prog 109 [.agg (liftT (encEntry x))] [] (.t (.bool true)) [] := hm ▸ emay_ok known_ok x ha hp
  have cw : Ct Tryz.prog 110 [.t (.int .i8 x.kind)] [] (.t (.func (.func 167) [] [])) [] := by rw [hk]; exact writing0
  have e1 : T.int .u8 ((UInt8.toNat 0 : Nat) : Int) = T.int .u8 (IntKind.u8.wrap x.kind) := by rw [hk]; rfl
  have cd := wdata_ok [0] x hma (by simp)
  skip
  simp only [wF, List.map, encByte, e1] at cd
  refine ct0 progOk Tryz.func59 rfl false rfl rfl ?_
  repeat' (first | refine w_stepZ progOk rfl rfl rfl rfl rfl ?_ | refine w_step progOk rfl rfl rfl ?_ | refine w_nil ?_ | refine w_seq ?_ | refine w_reg progOk rfl rfl ?_ | (refine w_gTP rfl rfl rfl rfl rfl (ht := fun h => ?_) (hf := fun h => ?_) <;> try exact prn) | (refine w_gFP rfl rfl rfl rfl rfl (ht := fun h => ?_) (hf := fun h => ?_) <;> try exact prn) | refine w_guardU rfl rfl rfl rfl rfl ?_ | (refine w_condP rfl (ht := fun h => ?_) (hf := fun h => ?_) <;> try exact prn) | refine w_block ?_ | refine w_skip ?_ | refine w_exit ?_ | refine w_ret ?_ | refine w_index progOk rfl rfl rfl rfl rfl rfl rfl (map_get (by assumption)) rfl ?_ | refine w_indexE progOk rfl rfl rfl rfl rfl rfl rfl (by assumption) (map_get (by assumption)) rfl ?_ | refine w_appNil progOk rfl rfl rfl rfl rfl rfl rfl rfl rfl rfl rfl rfl rfl (by simp [chunk]; omega) ?_ | refine w_appRow progOk rfl rfl rfl rfl rfl rfl rfl rfl rfl rfl rfl rfl rfl rfl (by simp [chunk]; omega) ?_ | refine w_regD (m := 5) progOk (by kernel_rfl) rfl rfl rfl rfl ?_ | refine s_step rfl rfl rfl rfl ?_ | refine s_nil ?_ | (refine s_gTP rfl rfl rfl rfl rfl (ht := fun h => ?_) (hf := fun h => ?_) <;> try exact prn) | (refine s_gFP rfl rfl rfl rfl rfl (ht := fun h => ?_) (hf := fun h => ?_) <;> try exact prn) | refine s_guardU rfl rfl rfl rfl rfl ?_ | refine s_index rfl rfl rfl rfl rfl rfl rfl (map_get (by assumption)) rfl ?_ | refine w_call progOk rfl rfl rfl rfl rfl rfl rfl (cm) rfl rfl ?_ | refine s_call rfl rfl rfl rfl rfl (cw) rfl rfl ?_ | refine w_callR progOk [(26, 1)] [(1, 26)] rfl rfl rfl rfl rfl cd rfl rfl rfl rfl rfl ?_ | refine w_convS progOk rfl rfl rfl rfl rfl rfl (bytesE_eq _).symm rfl ?_ | fail)
  exact w_fin rfl (Sub.of_eq (by simp only [List.append_assoc]))

theorem writing1 : Ct Tryz.prog 110 [.t (.int .i8 1)] [] (.t (.func (.func 168) [] [])) [] := by
  refine ct0 progOk Tryz.func110 rfl false rfl rfl ?_
  repeat' (first | refine w_stepZ progOk rfl rfl rfl rfl rfl ?_ | refine w_step progOk rfl rfl rfl ?_ | refine w_nil ?_ | refine w_seq ?_ | refine w_reg progOk rfl rfl ?_ | (refine w_gTP rfl rfl rfl rfl rfl (ht := fun h => ?_) (hf := fun h => ?_) <;> try exact prn) | (refine w_gFP rfl rfl rfl rfl rfl (ht := fun h => ?_) (hf := fun h => ?_) <;> try exact prn) | refine w_guardU rfl rfl rfl rfl rfl ?_ | (refine w_condP rfl (ht := fun h => ?_) (hf := fun h => ?_) <;> try exact prn) | refine w_block ?_ | refine w_skip ?_ | refine w_exit ?_ | refine w_ret ?_ | refine w_index progOk rfl rfl rfl rfl rfl rfl rfl (map_get (by assumption)) rfl ?_ | refine w_indexE progOk rfl rfl rfl rfl rfl rfl rfl (by assumption) (map_get (by assumption)) rfl ?_ | refine w_appNil progOk rfl rfl rfl rfl rfl rfl rfl rfl rfl rfl rfl rfl rfl (by simp [chunk]; omega) ?_ | refine w_appRow progOk rfl rfl rfl rfl rfl rfl rfl rfl rfl rfl rfl rfl rfl rfl (by simp [chunk]; omega) ?_ | refine s_step rfl rfl rfl rfl ?_ | refine s_nil ?_ | (refine s_gTP rfl rfl rfl rfl rfl (ht := fun h => ?_) (hf := fun h => ?_) <;> try exact prn) | (refine s_gFP rfl rfl rfl rfl rfl (ht := fun h => ?_) (hf := fun h => ?_) <;> try exact prn) | refine s_guardU rfl rfl rfl rfl rfl ?_ | refine s_index rfl rfl rfl rfl rfl rfl rfl (map_get (by assumption)) rfl ?_ | refine w_buildA progOk rfl rfl rfl rfl rfl rfl rfl rfl ?_ | fail)
  exact w_fin rfl (Sub.of_eq rfl)

theorem ebytes1 (x : Entry) (hk : x.kind = 1) (hm : mayE x = true) (ha : x.b.recs.length ≤ 1000000) (hp : x.prod.seen.length ≤ 1000000) : Ct Tryz.prog 59 [.agg (liftT (encEntry x))] [] (.tuple [.t (.str (entryB x)), .t (.int .i64 0)]) [] := by
  have hma := (mayE_alt hm).2
  simp only [hk, if_true, if_false, Int.reduceEq, true_and] at hma
  skip
  have eB : entryB x = [1] ++ (nums [x.b.pid, x.b.epoch] ++ flagB x.yes) := by simp [entryB, hk, nums]
  rw [eB]
  have cm : Ct Tryz.prog 109 [.agg (liftT (encEntry x))] [] (.t (.bool true)) [] := hm ▸ emay_ok known_ok x ha hp
  have cw : Ct Tryz.prog 110 [.t (.int .i8 x.kind)] [] (.t (.func (.func 168) [] [])) [] := by rw [hk]; exact writing1
  have e1 : T.int .u8 ((UInt8.toNat 1 : Nat) : Int) = T.int .u8 (IntKind.u8.wrap x.kind) := by rw [hk]; rfl
  have cd := wmark_ok [1] x (by omega) (by simp)
  replace cd := cd.weak (SubL.refl _) wF_weak
  simp only [wF, List.map, encByte, e1] at cd
  refine ct0 progOk Tryz.func59 rfl false rfl rfl ?_
  repeat' (first | refine w_stepZ progOk rfl rfl rfl rfl rfl ?_ | refine w_step progOk rfl rfl rfl ?_ | refine w_nil ?_ | refine w_seq ?_ | refine w_reg progOk rfl rfl ?_ | (refine w_gTP rfl rfl rfl rfl rfl (ht := fun h => ?_) (hf := fun h => ?_) <;> try exact prn) | (refine w_gFP rfl rfl rfl rfl rfl (ht := fun h => ?_) (hf := fun h => ?_) <;> try exact prn) | refine w_guardU rfl rfl rfl rfl rfl ?_ | (refine w_condP rfl (ht := fun h => ?_) (hf := fun h => ?_) <;> try exact prn) | refine w_block ?_ | refine w_skip ?_ | refine w_exit ?_ | refine w_ret ?_ | refine w_index progOk rfl rfl rfl rfl rfl rfl rfl (map_get (by assumption)) rfl ?_ | refine w_indexE progOk rfl rfl rfl rfl rfl rfl rfl (by assumption) (map_get (by assumption)) rfl ?_ | refine w_appNil progOk rfl rfl rfl rfl rfl rfl rfl rfl rfl rfl rfl rfl rfl (by simp [chunk]; omega) ?_ | refine w_appRow progOk rfl rfl rfl rfl rfl rfl rfl rfl rfl rfl rfl rfl rfl rfl (by simp [chunk]; omega) ?_ | refine w_regD (m := 5) progOk (by kernel_rfl) rfl rfl rfl rfl ?_ | refine s_step rfl rfl rfl rfl ?_ | refine s_nil ?_ | (refine s_gTP rfl rfl rfl rfl rfl (ht := fun h => ?_) (hf := fun h => ?_) <;> try exact prn) | (refine s_gFP rfl rfl rfl rfl rfl (ht := fun h => ?_) (hf := fun h => ?_) <;> try exact prn) | refine s_guardU rfl rfl rfl rfl rfl ?_ | refine s_index rfl rfl rfl rfl rfl rfl rfl (map_get (by assumption)) rfl ?_ | refine w_call progOk rfl rfl rfl rfl rfl rfl rfl (cm) rfl rfl ?_ | refine s_call rfl rfl rfl rfl rfl (cw) rfl rfl ?_ | refine w_callR progOk [(26, 1)] [(1, 26)] rfl rfl rfl rfl rfl cd rfl rfl rfl rfl rfl ?_ | refine w_convS progOk rfl rfl rfl rfl rfl rfl (bytesE_eq _).symm rfl ?_ | fail)
  exact w_fin rfl (Sub.of_eq (by simp only [List.append_assoc]))

theorem writing2 : Ct Tryz.prog 110 [.t (.int .i8 2)] [] (.t (.func (.func 169) [] [])) [] := by
  refine ct0 progOk Tryz.func110 rfl false rfl rfl ?_
  repeat' (first | refine w_stepZ progOk rfl rfl rfl rfl rfl ?_ | refine w_step progOk rfl rfl rfl ?_ | refine w_nil ?_ | refine w_seq ?_ | refine w_reg progOk rfl rfl ?_ | (refine w_gTP rfl rfl rfl rfl rfl (ht := fun h => ?_) (hf := fun h => ?_) <;> try exact prn) | (refine w_gFP rfl rfl rfl rfl rfl (ht := fun h => ?_) (hf := fun h => ?_) <;> try exact prn) | refine w_guardU rfl rfl rfl rfl rfl ?_ | (refine w_condP rfl (ht := fun h => ?_) (hf := fun h => ?_) <;> try exact prn) | refine w_block ?_ | refine w_skip ?_ | refine w_exit ?_ | refine w_ret ?_ | refine w_index progOk rfl rfl rfl rfl rfl rfl rfl (map_get (by assumption)) rfl ?_ | refine w_indexE progOk rfl rfl rfl rfl rfl rfl rfl (by assumption) (map_get (by assumption)) rfl ?_ | refine w_appNil progOk rfl rfl rfl rfl rfl rfl rfl rfl rfl rfl rfl rfl rfl (by simp [chunk]; omega) ?_ | refine w_appRow progOk rfl rfl rfl rfl rfl rfl rfl rfl rfl rfl rfl rfl rfl rfl (by simp [chunk]; omega) ?_ | refine s_step rfl rfl rfl rfl ?_ | refine s_nil ?_ | (refine s_gTP rfl rfl rfl rfl rfl (ht := fun h => ?_) (hf := fun h => ?_) <;> try exact prn) | (refine s_gFP rfl rfl rfl rfl rfl (ht := fun h => ?_) (hf := fun h => ?_) <;> try exact prn) | refine s_guardU rfl rfl rfl rfl rfl ?_ | refine s_index rfl rfl rfl rfl rfl rfl rfl (map_get (by assumption)) rfl ?_ | refine w_buildA progOk rfl rfl rfl rfl rfl rfl rfl rfl ?_ | fail)
  exact w_fin rfl (Sub.of_eq rfl)

theorem ebytes2 (x : Entry) (hk : x.kind = 2) (hm : mayE x = true) (ha : x.b.recs.length ≤ 1000000) (hp : x.prod.seen.length ≤ 1000000) : Ct Tryz.prog 59 [.agg (liftT (encEntry x))] [] (.tuple [.t (.str (entryB x)), .t (.int .i64 0)]) [] := by
  have hma := (mayE_alt hm).2
  simp only [hk, if_true, if_false, Int.reduceEq, true_and] at hma
  skip
  have eB : entryB x = [2] ++ (nums [x.offset]) := by simp [entryB, hk, nums]
  rw [eB]
  have cm : Ct Tryz.prog 109 [.agg (liftT (encEntry x))] [] (.t (.bool true)) [] := hm ▸ emay_ok known_ok x ha hp
  have cw : Ct Tryz.prog 110 [.t (.int .i8 x.kind)] [] (.t (.func (.func 169) [] [])) [] := by rw [hk]; exact writing2
  have e1 : T.int .u8 ((UInt8.toNat 2 : Nat) : Int) = T.int .u8 (IntKind.u8.wrap x.kind) := by rw [hk]; rfl
  have cd := wcut_ok [2] x (by omega) (by simp)
  replace cd := cd.weak (SubL.refl _) wF_weak
  simp only [wF, List.map, encByte, e1] at cd
  refine ct0 progOk Tryz.func59 rfl false rfl rfl ?_
  repeat' (first | refine w_stepZ progOk rfl rfl rfl rfl rfl ?_ | refine w_step progOk rfl rfl rfl ?_ | refine w_nil ?_ | refine w_seq ?_ | refine w_reg progOk rfl rfl ?_ | (refine w_gTP rfl rfl rfl rfl rfl (ht := fun h => ?_) (hf := fun h => ?_) <;> try exact prn) | (refine w_gFP rfl rfl rfl rfl rfl (ht := fun h => ?_) (hf := fun h => ?_) <;> try exact prn) | refine w_guardU rfl rfl rfl rfl rfl ?_ | (refine w_condP rfl (ht := fun h => ?_) (hf := fun h => ?_) <;> try exact prn) | refine w_block ?_ | refine w_skip ?_ | refine w_exit ?_ | refine w_ret ?_ | refine w_index progOk rfl rfl rfl rfl rfl rfl rfl (map_get (by assumption)) rfl ?_ | refine w_indexE progOk rfl rfl rfl rfl rfl rfl rfl (by assumption) (map_get (by assumption)) rfl ?_ | refine w_appNil progOk rfl rfl rfl rfl rfl rfl rfl rfl rfl rfl rfl rfl rfl (by simp [chunk]; omega) ?_ | refine w_appRow progOk rfl rfl rfl rfl rfl rfl rfl rfl rfl rfl rfl rfl rfl rfl (by simp [chunk]; omega) ?_ | refine w_regD (m := 5) progOk (by kernel_rfl) rfl rfl rfl rfl ?_ | refine s_step rfl rfl rfl rfl ?_ | refine s_nil ?_ | (refine s_gTP rfl rfl rfl rfl rfl (ht := fun h => ?_) (hf := fun h => ?_) <;> try exact prn) | (refine s_gFP rfl rfl rfl rfl rfl (ht := fun h => ?_) (hf := fun h => ?_) <;> try exact prn) | refine s_guardU rfl rfl rfl rfl rfl ?_ | refine s_index rfl rfl rfl rfl rfl rfl rfl (map_get (by assumption)) rfl ?_ | refine w_call progOk rfl rfl rfl rfl rfl rfl rfl (cm) rfl rfl ?_ | refine s_call rfl rfl rfl rfl rfl (cw) rfl rfl ?_ | refine w_callR progOk [(26, 1)] [(1, 26)] rfl rfl rfl rfl rfl cd rfl rfl rfl rfl rfl ?_ | refine w_convS progOk rfl rfl rfl rfl rfl rfl (bytesE_eq _).symm rfl ?_ | fail)
  exact w_fin rfl (Sub.of_eq (by simp only [List.append_assoc]))

theorem writing3 : Ct Tryz.prog 110 [.t (.int .i8 3)] [] (.t (.func (.func 170) [] [])) [] := by
  refine ct0 progOk Tryz.func110 rfl false rfl rfl ?_
  repeat' (first | refine w_stepZ progOk rfl rfl rfl rfl rfl ?_ | refine w_step progOk rfl rfl rfl ?_ | refine w_nil ?_ | refine w_seq ?_ | refine w_reg progOk rfl rfl ?_ | (refine w_gTP rfl rfl rfl rfl rfl (ht := fun h => ?_) (hf := fun h => ?_) <;> try exact prn) | (refine w_gFP rfl rfl rfl rfl rfl (ht := fun h => ?_) (hf := fun h => ?_) <;> try exact prn) | refine w_guardU rfl rfl rfl rfl rfl ?_ | (refine w_condP rfl (ht := fun h => ?_) (hf := fun h => ?_) <;> try exact prn) | refine w_block ?_ | refine w_skip ?_ | refine w_exit ?_ | refine w_ret ?_ | refine w_index progOk rfl rfl rfl rfl rfl rfl rfl (map_get (by assumption)) rfl ?_ | refine w_indexE progOk rfl rfl rfl rfl rfl rfl rfl (by assumption) (map_get (by assumption)) rfl ?_ | refine w_appNil progOk rfl rfl rfl rfl rfl rfl rfl rfl rfl rfl rfl rfl rfl (by simp [chunk]; omega) ?_ | refine w_appRow progOk rfl rfl rfl rfl rfl rfl rfl rfl rfl rfl rfl rfl rfl rfl (by simp [chunk]; omega) ?_ | refine s_step rfl rfl rfl rfl ?_ | refine s_nil ?_ | (refine s_gTP rfl rfl rfl rfl rfl (ht := fun h => ?_) (hf := fun h => ?_) <;> try exact prn) | (refine s_gFP rfl rfl rfl rfl rfl (ht := fun h => ?_) (hf := fun h => ?_) <;> try exact prn) | refine s_guardU rfl rfl rfl rfl rfl ?_ | refine s_index rfl rfl rfl rfl rfl rfl rfl (map_get (by assumption)) rfl ?_ | refine w_buildA progOk rfl rfl rfl rfl rfl rfl rfl rfl ?_ | fail)
  exact w_fin rfl (Sub.of_eq rfl)

theorem ebytes3 (x : Entry) (hk : x.kind = 3) (hm : mayE x = true) (ha : x.b.recs.length ≤ 1000000) (hp : x.prod.seen.length ≤ 1000000) : Ct Tryz.prog 59 [.agg (liftT (encEntry x))] [] (.tuple [.t (.str (entryB x)), .t (.int .i64 0)]) [] := by
  have hma := (mayE_alt hm).2
  simp only [hk, if_true, if_false, Int.reduceEq, true_and] at hma
  skip
  have eB : entryB x = [3] ++ (batchB x.b ++ flagB x.yes ++ (if x.yes then nums [x.next] else [])) := by simp [entryB, hk, nums]
  rw [eB]
  have cm : Ct Tryz.prog 109 [.agg (liftT (encEntry x))] [] (.t (.bool true)) [] := hm ▸ emay_ok known_ok x ha hp
  have cw : Ct Tryz.prog 110 [.t (.int .i8 x.kind)] [] (.t (.func (.func 170) [] [])) [] := by rw [hk]; exact writing3
  have e1 : T.int .u8 ((UInt8.toNat 3 : Nat) : Int) = T.int .u8 (IntKind.u8.wrap x.kind) := by rw [hk]; rfl
  have cd := wcopy_ok [3] x hma.1 (by omega) (by simp)
  skip
  simp only [wF, List.map, encByte, e1] at cd
  refine ct0 progOk Tryz.func59 rfl false rfl rfl ?_
  repeat' (first | refine w_stepZ progOk rfl rfl rfl rfl rfl ?_ | refine w_step progOk rfl rfl rfl ?_ | refine w_nil ?_ | refine w_seq ?_ | refine w_reg progOk rfl rfl ?_ | (refine w_gTP rfl rfl rfl rfl rfl (ht := fun h => ?_) (hf := fun h => ?_) <;> try exact prn) | (refine w_gFP rfl rfl rfl rfl rfl (ht := fun h => ?_) (hf := fun h => ?_) <;> try exact prn) | refine w_guardU rfl rfl rfl rfl rfl ?_ | (refine w_condP rfl (ht := fun h => ?_) (hf := fun h => ?_) <;> try exact prn) | refine w_block ?_ | refine w_skip ?_ | refine w_exit ?_ | refine w_ret ?_ | refine w_index progOk rfl rfl rfl rfl rfl rfl rfl (map_get (by assumption)) rfl ?_ | refine w_indexE progOk rfl rfl rfl rfl rfl rfl rfl (by assumption) (map_get (by assumption)) rfl ?_ | refine w_appNil progOk rfl rfl rfl rfl rfl rfl rfl rfl rfl rfl rfl rfl rfl (by simp [chunk]; omega) ?_ | refine w_appRow progOk rfl rfl rfl rfl rfl rfl rfl rfl rfl rfl rfl rfl rfl rfl (by simp [chunk]; omega) ?_ | refine w_regD (m := 5) progOk (by kernel_rfl) rfl rfl rfl rfl ?_ | refine s_step rfl rfl rfl rfl ?_ | refine s_nil ?_ | (refine s_gTP rfl rfl rfl rfl rfl (ht := fun h => ?_) (hf := fun h => ?_) <;> try exact prn) | (refine s_gFP rfl rfl rfl rfl rfl (ht := fun h => ?_) (hf := fun h => ?_) <;> try exact prn) | refine s_guardU rfl rfl rfl rfl rfl ?_ | refine s_index rfl rfl rfl rfl rfl rfl rfl (map_get (by assumption)) rfl ?_ | refine w_call progOk rfl rfl rfl rfl rfl rfl rfl (cm) rfl rfl ?_ | refine s_call rfl rfl rfl rfl rfl (cw) rfl rfl ?_ | refine w_callR progOk [(26, 1)] [(1, 26)] rfl rfl rfl rfl rfl cd rfl rfl rfl rfl rfl ?_ | refine w_convS progOk rfl rfl rfl rfl rfl rfl (bytesE_eq _).symm rfl ?_ | fail)
  exact w_fin rfl (Sub.of_eq (by simp only [List.append_assoc]))

theorem writing4 : Ct Tryz.prog 110 [.t (.int .i8 4)] [] (.t (.func (.func 171) [] [])) [] := by
  refine ct0 progOk Tryz.func110 rfl false rfl rfl ?_
  repeat' (first | refine w_stepZ progOk rfl rfl rfl rfl rfl ?_ | refine w_step progOk rfl rfl rfl ?_ | refine w_nil ?_ | refine w_seq ?_ | refine w_reg progOk rfl rfl ?_ | (refine w_gTP rfl rfl rfl rfl rfl (ht := fun h => ?_) (hf := fun h => ?_) <;> try exact prn) | (refine w_gFP rfl rfl rfl rfl rfl (ht := fun h => ?_) (hf := fun h => ?_) <;> try exact prn) | refine w_guardU rfl rfl rfl rfl rfl ?_ | (refine w_condP rfl (ht := fun h => ?_) (hf := fun h => ?_) <;> try exact prn) | refine w_block ?_ | refine w_skip ?_ | refine w_exit ?_ | refine w_ret ?_ | refine w_index progOk rfl rfl rfl rfl rfl rfl rfl (map_get (by assumption)) rfl ?_ | refine w_indexE progOk rfl rfl rfl rfl rfl rfl rfl (by assumption) (map_get (by assumption)) rfl ?_ | refine w_appNil progOk rfl rfl rfl rfl rfl rfl rfl rfl rfl rfl rfl rfl rfl (by simp [chunk]; omega) ?_ | refine w_appRow progOk rfl rfl rfl rfl rfl rfl rfl rfl rfl rfl rfl rfl rfl rfl (by simp [chunk]; omega) ?_ | refine s_step rfl rfl rfl rfl ?_ | refine s_nil ?_ | (refine s_gTP rfl rfl rfl rfl rfl (ht := fun h => ?_) (hf := fun h => ?_) <;> try exact prn) | (refine s_gFP rfl rfl rfl rfl rfl (ht := fun h => ?_) (hf := fun h => ?_) <;> try exact prn) | refine s_guardU rfl rfl rfl rfl rfl ?_ | refine s_index rfl rfl rfl rfl rfl rfl rfl (map_get (by assumption)) rfl ?_ | refine w_buildA progOk rfl rfl rfl rfl rfl rfl rfl rfl ?_ | fail)
  exact w_fin rfl (Sub.of_eq rfl)

theorem ebytes4 (x : Entry) (hk : x.kind = 4) (hm : mayE x = true) (ha : x.b.recs.length ≤ 1000000) (hp : x.prod.seen.length ≤ 1000000) : Ct Tryz.prog 59 [.agg (liftT (encEntry x))] [] (.tuple [.t (.str (entryB x)), .t (.int .i64 0)]) [] := by
  have hma := (mayE_alt hm).2
  simp only [hk, if_true, if_false, Int.reduceEq, true_and] at hma
  skip
  have eB : entryB x = [4] ++ (nums [x.b.pid, x.b.epoch, x.next]) := by simp [entryB, hk, nums]
  rw [eB]
  have cm : Ct Tryz.prog 109 [.agg (liftT (encEntry x))] [] (.t (.bool true)) [] := hm ▸ emay_ok known_ok x ha hp
  have cw : Ct Tryz.prog 110 [.t (.int .i8 x.kind)] [] (.t (.func (.func 171) [] [])) [] := by rw [hk]; exact writing4
  have e1 : T.int .u8 ((UInt8.toNat 4 : Nat) : Int) = T.int .u8 (IntKind.u8.wrap x.kind) := by rw [hk]; rfl
  have cd := wdrop_ok [4] x (by omega) (by simp)
  replace cd := cd.weak (SubL.refl _) wF_weak
  simp only [wF, List.map, encByte, e1] at cd
  refine ct0 progOk Tryz.func59 rfl false rfl rfl ?_
  repeat' (first | refine w_stepZ progOk rfl rfl rfl rfl rfl ?_ | refine w_step progOk rfl rfl rfl ?_ | refine w_nil ?_ | refine w_seq ?_ | refine w_reg progOk rfl rfl ?_ | (refine w_gTP rfl rfl rfl rfl rfl (ht := fun h => ?_) (hf := fun h => ?_) <;> try exact prn) | (refine w_gFP rfl rfl rfl rfl rfl (ht := fun h => ?_) (hf := fun h => ?_) <;> try exact prn) | refine w_guardU rfl rfl rfl rfl rfl ?_ | (refine w_condP rfl (ht := fun h => ?_) (hf := fun h => ?_) <;> try exact prn) | refine w_block ?_ | refine w_skip ?_ | refine w_exit ?_ | refine w_ret ?_ | refine w_index progOk rfl rfl rfl rfl rfl rfl rfl (map_get (by assumption)) rfl ?_ | refine w_indexE progOk rfl rfl rfl rfl rfl rfl rfl (by assumption) (map_get (by assumption)) rfl ?_ | refine w_appNil progOk rfl rfl rfl rfl rfl rfl rfl rfl rfl rfl rfl rfl rfl (by simp [chunk]; omega) ?_ | refine w_appRow progOk rfl rfl rfl rfl rfl rfl rfl rfl rfl rfl rfl rfl rfl rfl (by simp [chunk]; omega) ?_ | refine w_regD (m := 5) progOk (by kernel_rfl) rfl rfl rfl rfl ?_ | refine s_step rfl rfl rfl rfl ?_ | refine s_nil ?_ | (refine s_gTP rfl rfl rfl rfl rfl (ht := fun h => ?_) (hf := fun h => ?_) <;> try exact prn) | (refine s_gFP rfl rfl rfl rfl rfl (ht := fun h => ?_) (hf := fun h => ?_) <;> try exact prn) | refine s_guardU rfl rfl rfl rfl rfl ?_ | refine s_index rfl rfl rfl rfl rfl rfl rfl (map_get (by assumption)) rfl ?_ | refine w_call progOk rfl rfl rfl rfl rfl rfl rfl (cm) rfl rfl ?_ | refine s_call rfl rfl rfl rfl rfl (cw) rfl rfl ?_ | refine w_callR progOk [(26, 1)] [(1, 26)] rfl rfl rfl rfl rfl cd rfl rfl rfl rfl rfl ?_ | refine w_convS progOk rfl rfl rfl rfl rfl rfl (bytesE_eq _).symm rfl ?_ | fail)
  exact w_fin rfl (Sub.of_eq (by simp only [List.append_assoc]))

theorem writing5 : Ct Tryz.prog 110 [.t (.int .i8 5)] [] (.t (.func (.func 172) [] [])) [] := by
  refine ct0 progOk Tryz.func110 rfl false rfl rfl ?_
  repeat' (first | refine w_stepZ progOk rfl rfl rfl rfl rfl ?_ | refine w_step progOk rfl rfl rfl ?_ | refine w_nil ?_ | refine w_seq ?_ | refine w_reg progOk rfl rfl ?_ | (refine w_gTP rfl rfl rfl rfl rfl (ht := fun h => ?_) (hf := fun h => ?_) <;> try exact prn) | (refine w_gFP rfl rfl rfl rfl rfl (ht := fun h => ?_) (hf := fun h => ?_) <;> try exact prn) | refine w_guardU rfl rfl rfl rfl rfl ?_ | (refine w_condP rfl (ht := fun h => ?_) (hf := fun h => ?_) <;> try exact prn) | refine w_block ?_ | refine w_skip ?_ | refine w_exit ?_ | refine w_ret ?_ | refine w_index progOk rfl rfl rfl rfl rfl rfl rfl (map_get (by assumption)) rfl ?_ | refine w_indexE progOk rfl rfl rfl rfl rfl rfl rfl (by assumption) (map_get (by assumption)) rfl ?_ | refine w_appNil progOk rfl rfl rfl rfl rfl rfl rfl rfl rfl rfl rfl rfl rfl (by simp [chunk]; omega) ?_ | refine w_appRow progOk rfl rfl rfl rfl rfl rfl rfl rfl rfl rfl rfl rfl rfl rfl (by simp [chunk]; omega) ?_ | refine s_step rfl rfl rfl rfl ?_ | refine s_nil ?_ | (refine s_gTP rfl rfl rfl rfl rfl (ht := fun h => ?_) (hf := fun h => ?_) <;> try exact prn) | (refine s_gFP rfl rfl rfl rfl rfl (ht := fun h => ?_) (hf := fun h => ?_) <;> try exact prn) | refine s_guardU rfl rfl rfl rfl rfl ?_ | refine s_index rfl rfl rfl rfl rfl rfl rfl (map_get (by assumption)) rfl ?_ | refine w_buildA progOk rfl rfl rfl rfl rfl rfl rfl rfl ?_ | fail)
  exact w_fin rfl (Sub.of_eq rfl)

theorem ebytes5 (x : Entry) (hk : x.kind = 5) (hm : mayE x = true) (ha : x.b.recs.length ≤ 1000000) (hp : x.prod.seen.length ≤ 1000000) : Ct Tryz.prog 59 [.agg (liftT (encEntry x))] [] (.tuple [.t (.str (entryB x)), .t (.int .i64 0)]) [] := by
  have hma := (mayE_alt hm).2
  simp only [hk, if_true, if_false, Int.reduceEq, true_and] at hma
  simp only [mayRow, decide_eq_true_eq] at hma
  have eB : entryB x = [5] ++ (nums [x.row.pid, x.row.seq] ++ textB x.row.key ++ textB x.row.value) := by simp [entryB, hk, nums]
  rw [eB]
  have cm : Ct Tryz.prog 109 [.agg (liftT (encEntry x))] [] (.t (.bool true)) [] := hm ▸ emay_ok known_ok x ha hp
  have cw : Ct Tryz.prog 110 [.t (.int .i8 x.kind)] [] (.t (.func (.func 172) [] [])) [] := by rw [hk]; exact writing5
  have e1 : T.int .u8 ((UInt8.toNat 5 : Nat) : Int) = T.int .u8 (IntKind.u8.wrap x.kind) := by rw [hk]; rfl
  have cd := wrow_ok [5] x (by omega) (by omega) (by omega) (by simp)
  replace cd := cd.weak (SubL.refl _) wF_weak
  simp only [wF, List.map, encByte, e1] at cd
  refine ct0 progOk Tryz.func59 rfl false rfl rfl ?_
  repeat' (first | refine w_stepZ progOk rfl rfl rfl rfl rfl ?_ | refine w_step progOk rfl rfl rfl ?_ | refine w_nil ?_ | refine w_seq ?_ | refine w_reg progOk rfl rfl ?_ | (refine w_gTP rfl rfl rfl rfl rfl (ht := fun h => ?_) (hf := fun h => ?_) <;> try exact prn) | (refine w_gFP rfl rfl rfl rfl rfl (ht := fun h => ?_) (hf := fun h => ?_) <;> try exact prn) | refine w_guardU rfl rfl rfl rfl rfl ?_ | (refine w_condP rfl (ht := fun h => ?_) (hf := fun h => ?_) <;> try exact prn) | refine w_block ?_ | refine w_skip ?_ | refine w_exit ?_ | refine w_ret ?_ | refine w_index progOk rfl rfl rfl rfl rfl rfl rfl (map_get (by assumption)) rfl ?_ | refine w_indexE progOk rfl rfl rfl rfl rfl rfl rfl (by assumption) (map_get (by assumption)) rfl ?_ | refine w_appNil progOk rfl rfl rfl rfl rfl rfl rfl rfl rfl rfl rfl rfl rfl (by simp [chunk]; omega) ?_ | refine w_appRow progOk rfl rfl rfl rfl rfl rfl rfl rfl rfl rfl rfl rfl rfl rfl (by simp [chunk]; omega) ?_ | refine w_regD (m := 5) progOk (by kernel_rfl) rfl rfl rfl rfl ?_ | refine s_step rfl rfl rfl rfl ?_ | refine s_nil ?_ | (refine s_gTP rfl rfl rfl rfl rfl (ht := fun h => ?_) (hf := fun h => ?_) <;> try exact prn) | (refine s_gFP rfl rfl rfl rfl rfl (ht := fun h => ?_) (hf := fun h => ?_) <;> try exact prn) | refine s_guardU rfl rfl rfl rfl rfl ?_ | refine s_index rfl rfl rfl rfl rfl rfl rfl (map_get (by assumption)) rfl ?_ | refine w_call progOk rfl rfl rfl rfl rfl rfl rfl (cm) rfl rfl ?_ | refine s_call rfl rfl rfl rfl rfl (cw) rfl rfl ?_ | refine w_callR progOk [(26, 1)] [(1, 26)] rfl rfl rfl rfl rfl cd rfl rfl rfl rfl rfl ?_ | refine w_convS progOk rfl rfl rfl rfl rfl rfl (bytesE_eq _).symm rfl ?_ | fail)
  exact w_fin rfl (Sub.of_eq (by simp only [List.append_assoc]))

theorem writing6 : Ct Tryz.prog 110 [.t (.int .i8 6)] [] (.t (.func (.func 173) [] [])) [] := by
  refine ct0 progOk Tryz.func110 rfl false rfl rfl ?_
  repeat' (first | refine w_stepZ progOk rfl rfl rfl rfl rfl ?_ | refine w_step progOk rfl rfl rfl ?_ | refine w_nil ?_ | refine w_seq ?_ | refine w_reg progOk rfl rfl ?_ | (refine w_gTP rfl rfl rfl rfl rfl (ht := fun h => ?_) (hf := fun h => ?_) <;> try exact prn) | (refine w_gFP rfl rfl rfl rfl rfl (ht := fun h => ?_) (hf := fun h => ?_) <;> try exact prn) | refine w_guardU rfl rfl rfl rfl rfl ?_ | (refine w_condP rfl (ht := fun h => ?_) (hf := fun h => ?_) <;> try exact prn) | refine w_block ?_ | refine w_skip ?_ | refine w_exit ?_ | refine w_ret ?_ | refine w_index progOk rfl rfl rfl rfl rfl rfl rfl (map_get (by assumption)) rfl ?_ | refine w_indexE progOk rfl rfl rfl rfl rfl rfl rfl (by assumption) (map_get (by assumption)) rfl ?_ | refine w_appNil progOk rfl rfl rfl rfl rfl rfl rfl rfl rfl rfl rfl rfl rfl (by simp [chunk]; omega) ?_ | refine w_appRow progOk rfl rfl rfl rfl rfl rfl rfl rfl rfl rfl rfl rfl rfl rfl (by simp [chunk]; omega) ?_ | refine s_step rfl rfl rfl rfl ?_ | refine s_nil ?_ | (refine s_gTP rfl rfl rfl rfl rfl (ht := fun h => ?_) (hf := fun h => ?_) <;> try exact prn) | (refine s_gFP rfl rfl rfl rfl rfl (ht := fun h => ?_) (hf := fun h => ?_) <;> try exact prn) | refine s_guardU rfl rfl rfl rfl rfl ?_ | refine s_index rfl rfl rfl rfl rfl rfl rfl (map_get (by assumption)) rfl ?_ | refine w_buildA progOk rfl rfl rfl rfl rfl rfl rfl rfl ?_ | fail)
  exact w_fin rfl (Sub.of_eq rfl)

theorem ebytes6 (x : Entry) (hk : x.kind = 6) (hm : mayE x = true) (ha : x.b.recs.length ≤ 1000000) (hp : x.prod.seen.length ≤ 1000000) : Ct Tryz.prog 59 [.agg (liftT (encEntry x))] [] (.tuple [.t (.str (entryB x)), .t (.int .i64 0)]) [] := by
  have hma := (mayE_alt hm).2
  simp only [hk, if_true, if_false, Int.reduceEq, true_and] at hma
  skip
  have eB : entryB x = [6] ++ (nums [x.prod.pid, x.prod.epoch, x.prod.next, x.prod.seen.length] ++ x.prod.seen.flatMap seenB) := by simp [entryB, hk, nums]
  rw [eB]
  have cm : Ct Tryz.prog 109 [.agg (liftT (encEntry x))] [] (.t (.bool true)) [] := hm ▸ emay_ok known_ok x ha hp
  have cw : Ct Tryz.prog 110 [.t (.int .i8 x.kind)] [] (.t (.func (.func 173) [] [])) [] := by rw [hk]; exact writing6
  have e1 : T.int .u8 ((UInt8.toNat 6 : Nat) : Int) = T.int .u8 (IntKind.u8.wrap x.kind) := by rw [hk]; rfl
  have cd := wstate_ok [6] x hma (by simp)
  replace cd := cd.weak (SubL.refl _) wF_weak
  simp only [wF, List.map, encByte, e1] at cd
  refine ct0 progOk Tryz.func59 rfl false rfl rfl ?_
  repeat' (first | refine w_stepZ progOk rfl rfl rfl rfl rfl ?_ | refine w_step progOk rfl rfl rfl ?_ | refine w_nil ?_ | refine w_seq ?_ | refine w_reg progOk rfl rfl ?_ | (refine w_gTP rfl rfl rfl rfl rfl (ht := fun h => ?_) (hf := fun h => ?_) <;> try exact prn) | (refine w_gFP rfl rfl rfl rfl rfl (ht := fun h => ?_) (hf := fun h => ?_) <;> try exact prn) | refine w_guardU rfl rfl rfl rfl rfl ?_ | (refine w_condP rfl (ht := fun h => ?_) (hf := fun h => ?_) <;> try exact prn) | refine w_block ?_ | refine w_skip ?_ | refine w_exit ?_ | refine w_ret ?_ | refine w_index progOk rfl rfl rfl rfl rfl rfl rfl (map_get (by assumption)) rfl ?_ | refine w_indexE progOk rfl rfl rfl rfl rfl rfl rfl (by assumption) (map_get (by assumption)) rfl ?_ | refine w_appNil progOk rfl rfl rfl rfl rfl rfl rfl rfl rfl rfl rfl rfl rfl (by simp [chunk]; omega) ?_ | refine w_appRow progOk rfl rfl rfl rfl rfl rfl rfl rfl rfl rfl rfl rfl rfl rfl (by simp [chunk]; omega) ?_ | refine w_regD (m := 5) progOk (by kernel_rfl) rfl rfl rfl rfl ?_ | refine s_step rfl rfl rfl rfl ?_ | refine s_nil ?_ | (refine s_gTP rfl rfl rfl rfl rfl (ht := fun h => ?_) (hf := fun h => ?_) <;> try exact prn) | (refine s_gFP rfl rfl rfl rfl rfl (ht := fun h => ?_) (hf := fun h => ?_) <;> try exact prn) | refine s_guardU rfl rfl rfl rfl rfl ?_ | refine s_index rfl rfl rfl rfl rfl rfl rfl (map_get (by assumption)) rfl ?_ | refine w_call progOk rfl rfl rfl rfl rfl rfl rfl (cm) rfl rfl ?_ | refine s_call rfl rfl rfl rfl rfl (cw) rfl rfl ?_ | refine w_callR progOk [(26, 1)] [(1, 26)] rfl rfl rfl rfl rfl cd rfl rfl rfl rfl rfl ?_ | refine w_convS progOk rfl rfl rfl rfl rfl rfl (bytesE_eq _).symm rfl ?_ | fail)
  exact w_fin rfl (Sub.of_eq (by simp only [List.append_assoc]))

theorem ebytes_ok (x : Entry) (hm : mayE x = true) (ha : x.b.recs.length ≤ 1000000) (hp : x.prod.seen.length ≤ 1000000) : Ct Tryz.prog 59 [.agg (liftT (encEntry x))] [] (.tuple [.t (.str (entryB x)), .t (.int .i64 0)]) [] := by
  rcases mayE_kind hm with h | h | h | h | h | h | h
  · exact ebytes0 x h hm ha hp
  · exact ebytes1 x h hm ha hp
  · exact ebytes2 x h hm ha hp
  · exact ebytes3 x h hm ha hp
  · exact ebytes4 x h hm ha hp
  · exact ebytes5 x h hm ha hp
  · exact ebytes6 x h hm ha hp

theorem ebytes_no (x : Entry) (hm : mayE x = false) (ha : x.b.recs.length ≤ 1000000) (hp : x.prod.seen.length ≤ 1000000) : Ct Tryz.prog 59 [.agg (liftT (encEntry x))] [] (.tuple [.t (.str []), .t (.int .i64 2)]) [] := by
  have cm : Ct Tryz.prog 109 [.agg (liftT (encEntry x))] [] (.t (.bool false)) [] := hm ▸ emay_ok known_ok x ha hp
  refine ct0 progOk Tryz.func59 rfl false rfl rfl ?_
  repeat' (first | refine w_stepZ progOk rfl rfl rfl rfl rfl ?_ | refine w_step progOk rfl rfl rfl ?_ | refine w_nil ?_ | refine w_seq ?_ | refine w_reg progOk rfl rfl ?_ | (refine w_gTP rfl rfl rfl rfl rfl (ht := fun h => ?_) (hf := fun h => ?_) <;> try exact prn) | (refine w_gFP rfl rfl rfl rfl rfl (ht := fun h => ?_) (hf := fun h => ?_) <;> try exact prn) | refine w_guardU rfl rfl rfl rfl rfl ?_ | (refine w_condP rfl (ht := fun h => ?_) (hf := fun h => ?_) <;> try exact prn) | refine w_block ?_ | refine w_skip ?_ | refine w_exit ?_ | refine w_ret ?_ | refine w_index progOk rfl rfl rfl rfl rfl rfl rfl (map_get (by assumption)) rfl ?_ | refine w_indexE progOk rfl rfl rfl rfl rfl rfl rfl (by assumption) (map_get (by assumption)) rfl ?_ | refine w_appNil progOk rfl rfl rfl rfl rfl rfl rfl rfl rfl rfl rfl rfl rfl (by simp [chunk]; omega) ?_ | refine w_appRow progOk rfl rfl rfl rfl rfl rfl rfl rfl rfl rfl rfl rfl rfl rfl (by simp [chunk]; omega) ?_ | refine w_regD (m := 5) progOk (by kernel_rfl) rfl rfl rfl rfl ?_ | refine s_step rfl rfl rfl rfl ?_ | refine s_nil ?_ | (refine s_gTP rfl rfl rfl rfl rfl (ht := fun h => ?_) (hf := fun h => ?_) <;> try exact prn) | (refine s_gFP rfl rfl rfl rfl rfl (ht := fun h => ?_) (hf := fun h => ?_) <;> try exact prn) | refine s_guardU rfl rfl rfl rfl rfl ?_ | refine s_index rfl rfl rfl rfl rfl rfl rfl (map_get (by assumption)) rfl ?_ | refine w_call progOk rfl rfl rfl rfl rfl rfl rfl (cm) rfl rfl ?_ | fail)
  exact w_fin rfl (Sub.of_eq rfl)

end Go.Proofs.YtpdmaenhenfofaaGreatDoor
