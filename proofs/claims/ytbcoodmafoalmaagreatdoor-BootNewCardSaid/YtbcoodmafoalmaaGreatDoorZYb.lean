/- What a write does to a new disk. -/
import Derived.Test.YtbcoodmafoalmaaGreatDoorZM9
import Derived.Test.YtbcoodmafoalmaaGreatDoorZM10
import Derived.Test.YtbcoodmafoalmaaGreatDoorZM11
import Derived.Test.YtbcoodmafoalmaaGreatDoorZM12
import Derived.Test.YtbcoodmafoalmaaGreatDoorZYa
set_option linter.unusedVariables false
set_option linter.unusedSimpArgs false
namespace Go.Proofs.YtbcoodmafoalmaaGreatDoor
open Go.Am
attribute [local irreducible] Decidable.decide
set_option maxRecDepth 100000
set_option maxHeartbeats 1000000
theorem usedZ_ok (m l : Int) : Ct Tryz.prog 77 [.agg (liftT (dskZ m l))] [] (.t (.int .i64 0)) [] := by
  refine ct0 progOk Tryz.func77 rfl false rfl rfl ?_
  repeat' (first | refine w_stepZ progOk rfl rfl rfl rfl rfl ?_ | refine w_step progOk rfl rfl rfl ?_ | refine w_nil ?_ | refine w_seq ?_ | refine w_reg progOk rfl rfl ?_ | (refine w_gTP rfl rfl rfl rfl rfl (ht := fun h => ?_) (hf := fun h => ?_) <;> try exact prn) | (refine w_gFP rfl rfl rfl rfl rfl (ht := fun h => ?_) (hf := fun h => ?_) <;> try exact prn) | refine w_guardU rfl rfl rfl rfl rfl ?_ | (refine w_condP rfl (ht := fun h => ?_) (hf := fun h => ?_) <;> try exact prn) | refine w_block ?_ | refine w_skip ?_ | refine w_exit ?_ | refine w_ret ?_ | refine w_index progOk rfl rfl rfl rfl rfl rfl rfl (map_get (by assumption)) rfl ?_ | refine w_indexE progOk rfl rfl rfl rfl rfl rfl rfl (by assumption) (map_get (by assumption)) rfl ?_ | refine w_appNil progOk rfl rfl rfl rfl rfl rfl rfl rfl rfl rfl rfl rfl rfl (by simp [chunk]; omega) ?_ | refine w_appRow progOk rfl rfl rfl rfl rfl rfl rfl rfl rfl rfl rfl rfl rfl rfl (by simp [chunk]; omega) ?_ | refine w_nilQ progOk rfl rfl rfl rfl rfl (fun _ => rfl) (fun b hb => ?_) | refine s_step rfl rfl rfl rfl ?_ | refine s_nil ?_ | (refine s_gTP rfl rfl rfl rfl rfl (ht := fun h => ?_) (hf := fun h => ?_) <;> try exact prn) | (refine s_gFP rfl rfl rfl rfl rfl (ht := fun h => ?_) (hf := fun h => ?_) <;> try exact prn) | refine s_guardU rfl rfl rfl rfl rfl ?_ | refine s_index rfl rfl rfl rfl rfl rfl rfl (map_get (by assumption)) rfl ?_ | refine s_indexE rfl rfl rfl rfl rfl rfl rfl (by assumption) (map_get (by assumption)) rfl ?_ | refine w_unroll 1 ?_ | refine w_again ?_ | fail)
  all_goals try (exfalso; simp_all; done)
  all_goals exact w_fin rfl (Sub.of_eq rfl)
theorem validZ_ok (m : Int) (h : 0 ≤ m ∧ m ≤ 65536) : Ct Tryz.prog 43 [.agg (liftT (dskZ m (-1)))] [] (.t .nilIface) [] := by
  refine ct0 progOk Tryz.func43 rfl false rfl rfl ?_
  repeat' (first | refine w_stepZ progOk rfl rfl rfl rfl rfl ?_ | refine w_step progOk rfl rfl rfl ?_ | refine w_nil ?_ | refine w_seq ?_ | refine w_reg progOk rfl rfl ?_ | (refine w_gTP rfl rfl rfl rfl rfl (ht := fun h => ?_) (hf := fun h => ?_) <;> try exact prn) | (refine w_gFP rfl rfl rfl rfl rfl (ht := fun h => ?_) (hf := fun h => ?_) <;> try exact prn) | refine w_guardU rfl rfl rfl rfl rfl ?_ | (refine w_condP rfl (ht := fun h => ?_) (hf := fun h => ?_) <;> try exact prn) | refine w_block ?_ | refine w_skip ?_ | refine w_exit ?_ | refine w_ret ?_ | refine w_index progOk rfl rfl rfl rfl rfl rfl rfl (map_get (by assumption)) rfl ?_ | refine w_indexE progOk rfl rfl rfl rfl rfl rfl rfl (by assumption) (map_get (by assumption)) rfl ?_ | refine w_appNil progOk rfl rfl rfl rfl rfl rfl rfl rfl rfl rfl rfl rfl rfl (by simp [chunk]; omega) ?_ | refine w_appRow progOk rfl rfl rfl rfl rfl rfl rfl rfl rfl rfl rfl rfl rfl rfl (by simp [chunk]; omega) ?_ | refine w_nilQ progOk rfl rfl rfl rfl rfl (fun _ => rfl) (fun b hb => ?_) | refine w_regD (id := 12) (m := 4) progOk (by kernel_rfl) rfl rfl rfl rfl ?_ | refine s_step rfl rfl rfl rfl ?_ | refine s_nil ?_ | (refine s_gTP rfl rfl rfl rfl rfl (ht := fun h => ?_) (hf := fun h => ?_) <;> try exact prn) | (refine s_gFP rfl rfl rfl rfl rfl (ht := fun h => ?_) (hf := fun h => ?_) <;> try exact prn) | refine s_guardU rfl rfl rfl rfl rfl ?_ | refine s_index rfl rfl rfl rfl rfl rfl rfl (map_get (by assumption)) rfl ?_ | refine s_indexE rfl rfl rfl rfl rfl rfl rfl (by assumption) (map_get (by assumption)) rfl ?_ | refine w_call progOk rfl rfl rfl rfl rfl rfl rfl (usedZ_ok m (-1)) rfl rfl ?_ | refine s_call rfl rfl rfl rfl rfl (usedZ_ok m (-1)) rfl rfl ?_ | refine w_unroll 1 ?_ | refine w_again ?_ | fail)
  all_goals try (exfalso; simp_all; done)
  all_goals try (exfalso; simp_all; omega)
  all_goals exact w_fin rfl (Sub.of_eq rfl)
theorem operT_ok (e : Int) (he : e = 0 ∨ e = 1) : Ct Tryz.prog 44 [.agg (liftT (wT e))] [] (.t (.bool true)) [] := by
  rcases he with rfl | rfl <;> exact ctYA progOkN egN_ok 9 rfl (fun _ => rfl) (by kernel_rfl)
theorem afterT_ok (e : Int) (he : e = 0 ∨ e = 1) : Ct Tryz.prog 49 [.agg (liftT (filT [116] [] 0)), .agg (liftT (wT e))] [] (.agg (liftT (fT e))) [] := by
  rcases he with rfl | rfl <;> exact ctYA progOkN egN_ok 9 rfl (fun _ => rfl) (by kernel_rfl)
theorem firstZ_ok (cs : List T) : Ct Tryz.prog 45 [.t (.slice .nil 0 []), .t (.func (.func 46) [] [.ptr cs])] [] (.t (.int .i64 0)) [] := by
  refine ct0 progOk Tryz.func45 rfl false rfl rfl ?_
  repeat' (first | refine w_stepZ progOk rfl rfl rfl rfl rfl ?_ | refine w_step progOk rfl rfl rfl ?_ | refine w_nil ?_ | refine w_seq ?_ | refine w_reg progOk rfl rfl ?_ | (refine w_gTP rfl rfl rfl rfl rfl (ht := fun h => ?_) (hf := fun h => ?_) <;> try exact prn) | (refine w_gFP rfl rfl rfl rfl rfl (ht := fun h => ?_) (hf := fun h => ?_) <;> try exact prn) | refine w_guardU rfl rfl rfl rfl rfl ?_ | (refine w_condP rfl (ht := fun h => ?_) (hf := fun h => ?_) <;> try exact prn) | refine w_block ?_ | refine w_skip ?_ | refine w_exit ?_ | refine w_ret ?_ | refine w_index progOk rfl rfl rfl rfl rfl rfl rfl (map_get (by assumption)) rfl ?_ | refine w_indexE progOk rfl rfl rfl rfl rfl rfl rfl (by assumption) (map_get (by assumption)) rfl ?_ | refine w_appNil progOk rfl rfl rfl rfl rfl rfl rfl rfl rfl rfl rfl rfl rfl (by simp [chunk]; omega) ?_ | refine w_appRow progOk rfl rfl rfl rfl rfl rfl rfl rfl rfl rfl rfl rfl rfl rfl (by simp [chunk]; omega) ?_ | refine w_nilQ progOk rfl rfl rfl rfl rfl (fun _ => rfl) (fun b hb => ?_) | refine s_step rfl rfl rfl rfl ?_ | refine s_nil ?_ | (refine s_gTP rfl rfl rfl rfl rfl (ht := fun h => ?_) (hf := fun h => ?_) <;> try exact prn) | (refine s_gFP rfl rfl rfl rfl rfl (ht := fun h => ?_) (hf := fun h => ?_) <;> try exact prn) | refine s_guardU rfl rfl rfl rfl rfl ?_ | refine s_index rfl rfl rfl rfl rfl rfl rfl (map_get (by assumption)) rfl ?_ | refine s_indexE rfl rfl rfl rfl rfl rfl rfl (by assumption) (map_get (by assumption)) rfl ?_ | refine w_unroll 1 ?_ | refine w_again ?_ | fail)
  all_goals try (exfalso; simp_all; done)
  all_goals exact w_fin rfl (Sub.of_eq rfl)
theorem cloneZ_ok : Ct Tryz.prog 18 [.t (.slice .nil 0 [])] [] (.t (.slice .nil 0 [])) [] := ctYA progOkN egN_ok 9 rfl (fun _ => rfl) (by kernel_rfl)
theorem growF_ok (n : Nat) (h0 : 0 < n) (hn : n ≤ 1000000) :
    Ct Tryz.prog 78 [.t (.slice .nil 0 []), .t (.int .i64 n)] [] (.row 44 3 0 0) [(44, .grow 3 [])] := by
  refine ct1 progOk Tryz.func78 rfl rfl ?_
  have hw : IntKind.i64.wrap ((n : Int) - IntKind.i64.wrap (0 - ((([] : List (List T)).length : Nat) : Int))) = (n : Int) := by
    have : IntKind.i64.wrap (0 - ((([] : List (List T)).length : Nat) : Int)) = 0 := by rw [wrap64 (by simp) (by simp)]; simp
    rw [this, wrap64 (by omega) (by omega)]; omega
  repeat' (first | refine w_stepZ progOk rfl rfl rfl rfl rfl ?_ | refine w_step progOk rfl rfl rfl ?_ | refine w_nil ?_ | refine w_seq ?_ | refine w_reg progOk rfl rfl ?_ | (refine w_gTP rfl rfl rfl rfl rfl (ht := fun h => ?_) (hf := fun h => ?_) <;> try exact prn) | (refine w_gFP rfl rfl rfl rfl rfl (ht := fun h => ?_) (hf := fun h => ?_) <;> try exact prn) | refine w_guardU rfl rfl rfl rfl rfl ?_ | (refine w_condP rfl (ht := fun h => ?_) (hf := fun h => ?_) <;> try exact prn) | refine w_block ?_ | refine w_skip ?_ | refine w_exit ?_ | refine w_ret ?_ | refine w_index progOk rfl rfl rfl rfl rfl rfl rfl (map_get (by assumption)) rfl ?_ | refine w_indexE progOk rfl rfl rfl rfl rfl rfl rfl (by assumption) (map_get (by assumption)) rfl ?_ | refine w_appNil progOk rfl rfl rfl rfl rfl rfl rfl rfl rfl rfl rfl rfl rfl (by simp [chunk]; omega) ?_ | refine w_appRow progOk rfl rfl rfl rfl rfl rfl rfl rfl rfl rfl rfl rfl rfl rfl (by simp [chunk]; omega) ?_ | refine w_nilQ progOk rfl rfl rfl rfl rfl (fun _ => rfl) (fun b hb => ?_) | refine s_step rfl rfl rfl rfl ?_ | refine s_nil ?_ | (refine s_gTP rfl rfl rfl rfl rfl (ht := fun h => ?_) (hf := fun h => ?_) <;> try exact prn) | (refine s_gFP rfl rfl rfl rfl rfl (ht := fun h => ?_) (hf := fun h => ?_) <;> try exact prn) | refine s_guardU rfl rfl rfl rfl rfl ?_ | refine s_index rfl rfl rfl rfl rfl rfl rfl (map_get (by assumption)) rfl ?_ | refine s_indexE rfl rfl rfl rfl rfl rfl rfl (by assumption) (map_get (by assumption)) rfl ?_ | refine w_capNil progOk rfl rfl rfl rfl rfl rfl rfl rfl ?_ | refine w_appZeroNil progOk rfl rfl rfl rfl rfl rfl rfl rfl rfl rfl rfl hw rfl rfl h0 (by omega) ?_ | fail)
  exact w_fin1 [] rfl rfl rfl (Sub.refl _)
def spG (f : Nat) (xs : List AV) (σ : St) : Option (AV × St) :=
  match Nat.beq f 78 with
  | true => (match σ with
    | [] => (match xs with
      | [.t (.slice .nil 0 []), .t (.int .i64 (.ofNat 1))] => some (.row 44 3 0 0, [(44, .grow 3 [])])
      | _ => none)
    | _ => none)
  | false => none
theorem spG_ok {f : Nat} {xs : List AV} {σ σ' : St} {r : AV} (h : spG f xs σ = some (r, σ')) : Ct Tryz.prog f xs σ r σ' := by
  unfold spG at h
  split at h
  · rename_i hf
    have := Nat.eq_of_beq_eq_true hf
    subst this
    split at h
    · split at h
      · simp only [Option.some.injEq, Prod.mk.injEq] at h
        obtain ⟨rfl, rfl⟩ := h
        exact growF_ok 1 (by decide) (by decide)
      · cases h
    · cases h
  · cases h
def cfgG : Conf := { cfg with sp := spG, ownR := [50] }
theorem progOkG : ProgOk Tryz.prog cfgG where
  te := progOk.te
  inv := progOk.inv
  num := progOk.num
  mix := progOk.mix
  sp := fun f xs σ r σ' h => spG_ok h
theorem cloneI0_ok : Ct Tryz.prog 138 [.t (.slice .any 1 [])] [] (.t (.slice .any 1 [])) [] := by
  refine ct0 progOk Tryz.func138 rfl false rfl rfl ?_
  repeat' (first | refine w_stepZ progOk rfl rfl rfl rfl rfl ?_ | refine w_step progOk rfl rfl rfl ?_ | refine w_nil ?_ | refine w_seq ?_ | refine w_reg progOk rfl rfl ?_ | (refine w_gTP rfl rfl rfl rfl rfl (ht := fun h => ?_) (hf := fun h => ?_) <;> try exact prn) | (refine w_gFP rfl rfl rfl rfl rfl (ht := fun h => ?_) (hf := fun h => ?_) <;> try exact prn) | refine w_guardU rfl rfl rfl rfl rfl ?_ | (refine w_condP rfl (ht := fun h => ?_) (hf := fun h => ?_) <;> try exact prn) | refine w_block ?_ | refine w_skip ?_ | refine w_exit ?_ | refine w_ret ?_ | refine w_index progOk rfl rfl rfl rfl rfl rfl rfl (map_get (by assumption)) rfl ?_ | refine w_indexE progOk rfl rfl rfl rfl rfl rfl rfl (by assumption) (map_get (by assumption)) rfl ?_ | refine w_appNil progOk rfl rfl rfl rfl rfl rfl rfl rfl rfl rfl rfl rfl rfl (by simp [chunk]; omega) ?_ | refine w_appRow progOk rfl rfl rfl rfl rfl rfl rfl rfl rfl rfl rfl rfl rfl rfl (by simp [chunk]; omega) ?_ | refine w_nilQ progOk rfl rfl rfl rfl rfl (fun _ => rfl) (fun b hb => ?_) | refine s_step rfl rfl rfl rfl ?_ | refine s_nil ?_ | (refine s_gTP rfl rfl rfl rfl rfl (ht := fun h => ?_) (hf := fun h => ?_) <;> try exact prn) | (refine s_gFP rfl rfl rfl rfl rfl (ht := fun h => ?_) (hf := fun h => ?_) <;> try exact prn) | refine s_guardU rfl rfl rfl rfl rfl ?_ | refine s_index rfl rfl rfl rfl rfl rfl rfl (map_get (by assumption)) rfl ?_ | refine s_indexE rfl rfl rfl rfl rfl rfl rfl (by assumption) (map_get (by assumption)) rfl ?_ | fail)
  all_goals first
    | exact w_fin rfl sub_slNil
    | exact w_fin rfl (Sub.of_eq rfl)
    | (refine w_fin rfl (Sub.of_eq ?_); simp [frzA]; done)
end Go.Proofs.YtbcoodmafoalmaaGreatDoor
