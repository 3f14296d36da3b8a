/- A new disk: what the small functions do, of the program and of the document. -/
import Derived.Test.YtbcoodmafoalmaaGreatDoorZM9
import Derived.Test.YtbcoodmafoalmaaGreatDoorZM10
import Derived.Test.YtbcoodmafoalmaaGreatDoorZM11
import Derived.Test.YtbcoodmafoalmaaGreatDoorZM12
import Derived.Test.YtbcoodmafoalmaaGreatDoorZT1
import Derived.Test.YtbcoodmafoalmaaGreatDoorZD1
set_option linter.unusedVariables false
set_option linter.unusedSimpArgs false
namespace Go.Proofs.YtbcoodmafoalmaaGreatDoor
open Go.Am
attribute [local irreducible] Decidable.decide
set_option maxRecDepth 100000
set_option maxHeartbeats 1000000
def filT (n b : Bs) (s : Int) : List T := [.str n, .str b, .int .i64 s]
def dskT (fs : List (List T)) (c l : Int) (dn : Bool) : List T := [.slice .any 3 fs, .int .i64 c, .int .i64 l, .bool dn]
def dskZ (m l : Int) : List T := [.slice .nil 0 [], .int .i64 m, .int .i64 l, .bool false]
def letN (e : Int) : Bs := if e = 0 then [105] else if e = 1 then [98] else []
def wT (e : Int) : List T := [.int .i8 2, .str [116], .str (letN e), .int .i64 0]
def fT (e : Int) : List T := filT [116] (letN e) 1
def egN : Nat → List T → Bool := fun _ _ => false
theorem egN_ok : ∀ gf caps, egN gf caps = true → EmptyG Tryz.prog gf caps := by intro gf caps h; cases h
def cfgN : Conf := { cfg with ownR := [50] }
theorem progOkN : ProgOk Tryz.prog cfgN where
  te := progOk.te
  inv := progOk.inv
  num := progOk.num
  mix := progOk.mix
  sp := fun f xs σ r σ' h => progOk.sp f xs σ r σ' h
theorem ctYA {P : Program} {c : Conf} {eg : Nat → List T → Bool} (hp : ProgOk P c) (heg : ∀ gf caps, eg gf caps = true → EmptyG P gf caps) (d : Nat) {f : Nat} {xs : List AV} {r : AV} (hr : r.free = true) (hx : ∀ b, r.has b = false) (h : (callY P c eg d f xs []).map (·.1) = some r) : Ct P f xs [] r [] := by
  cases hc : callY P c eg d f xs [] with
  | none => rw [hc] at h; cases h
  | some q =>
    obtain ⟨r2, σ2⟩ := q
    rw [hc] at h
    simp at h
    subst h
    obtain ⟨e, s, hz⟩ := frzIn_free (r := r2) hx σ2 [] σ2
    exact Ct.freeze (callY_sound hp heg d _ _ _ _ _ hc) hz hr
theorem newD_ok (m : Int) (h : 0 ≤ m ∧ m ≤ 65536) : Ct Tryz.prog 9 [.t (.int .i64 m)] [] (.tuple [.agg (liftT (dskZ m (-1))), .t (.int .i64 0)]) [] := by
  refine ct0 progOk Tryz.func9 rfl false rfl rfl ?_
  repeat' (first | refine w_stepZ progOk rfl rfl rfl rfl rfl ?_ | refine w_step progOk rfl rfl rfl ?_ | refine w_nil ?_ | refine w_seq ?_ | refine w_reg progOk rfl rfl ?_ | (refine w_gTP rfl rfl rfl rfl rfl (ht := fun h => ?_) (hf := fun h => ?_) <;> try exact prn) | (refine w_gFP rfl rfl rfl rfl rfl (ht := fun h => ?_) (hf := fun h => ?_) <;> try exact prn) | refine w_guardU rfl rfl rfl rfl rfl ?_ | (refine w_condP rfl (ht := fun h => ?_) (hf := fun h => ?_) <;> try exact prn) | refine w_block ?_ | refine w_skip ?_ | refine w_exit ?_ | refine w_ret ?_ | refine w_index progOk rfl rfl rfl rfl rfl rfl rfl (map_get (by assumption)) rfl ?_ | refine w_indexE progOk rfl rfl rfl rfl rfl rfl rfl (by assumption) (map_get (by assumption)) rfl ?_ | refine w_appNil progOk rfl rfl rfl rfl rfl rfl rfl rfl rfl rfl rfl rfl rfl (by simp [chunk]; omega) ?_ | refine w_appRow progOk rfl rfl rfl rfl rfl rfl rfl rfl rfl rfl rfl rfl rfl rfl (by simp [chunk]; omega) ?_ | refine w_nilQ progOk rfl rfl rfl rfl rfl (fun _ => rfl) (fun b hb => ?_) | refine s_step rfl rfl rfl rfl ?_ | refine s_nil ?_ | (refine s_gTP rfl rfl rfl rfl rfl (ht := fun h => ?_) (hf := fun h => ?_) <;> try exact prn) | (refine s_gFP rfl rfl rfl rfl rfl (ht := fun h => ?_) (hf := fun h => ?_) <;> try exact prn) | refine s_guardU rfl rfl rfl rfl rfl ?_ | refine s_index rfl rfl rfl rfl rfl rfl rfl (map_get (by assumption)) rfl ?_ | refine s_indexE rfl rfl rfl rfl rfl rfl rfl (by assumption) (map_get (by assumption)) rfl ?_ | fail)
  all_goals try (exfalso; omega)
  all_goals (refine w_fin rfl ?_; repeat' (first | exact Sub.refl _ | exact sub_slNil | exact sub_slice | exact trivial | refine sub_agg ?_ | refine sub_tuple ?_ | refine And.intro ?_ ?_))
theorem newD_bad (m : Int) (h : ¬ (0 ≤ m ∧ m ≤ 65536)) : Ct Tryz.prog 9 [.t (.int .i64 m)] [] (.tuple [.agg (liftT (dskZ 0 0)), .t (.int .i64 2)]) [] := by
  refine ct0 progOk Tryz.func9 rfl false rfl rfl ?_
  repeat' (first | refine w_stepZ progOk rfl rfl rfl rfl rfl ?_ | refine w_step progOk rfl rfl rfl ?_ | refine w_nil ?_ | refine w_seq ?_ | refine w_reg progOk rfl rfl ?_ | (refine w_gTP rfl rfl rfl rfl rfl (ht := fun h => ?_) (hf := fun h => ?_) <;> try exact prn) | (refine w_gFP rfl rfl rfl rfl rfl (ht := fun h => ?_) (hf := fun h => ?_) <;> try exact prn) | refine w_guardU rfl rfl rfl rfl rfl ?_ | (refine w_condP rfl (ht := fun h => ?_) (hf := fun h => ?_) <;> try exact prn) | refine w_block ?_ | refine w_skip ?_ | refine w_exit ?_ | refine w_ret ?_ | refine w_index progOk rfl rfl rfl rfl rfl rfl rfl (map_get (by assumption)) rfl ?_ | refine w_indexE progOk rfl rfl rfl rfl rfl rfl rfl (by assumption) (map_get (by assumption)) rfl ?_ | refine w_appNil progOk rfl rfl rfl rfl rfl rfl rfl rfl rfl rfl rfl rfl rfl (by simp [chunk]; omega) ?_ | refine w_appRow progOk rfl rfl rfl rfl rfl rfl rfl rfl rfl rfl rfl rfl rfl rfl (by simp [chunk]; omega) ?_ | refine w_nilQ progOk rfl rfl rfl rfl rfl (fun _ => rfl) (fun b hb => ?_) | refine s_step rfl rfl rfl rfl ?_ | refine s_nil ?_ | (refine s_gTP rfl rfl rfl rfl rfl (ht := fun h => ?_) (hf := fun h => ?_) <;> try exact prn) | (refine s_gFP rfl rfl rfl rfl rfl (ht := fun h => ?_) (hf := fun h => ?_) <;> try exact prn) | refine s_guardU rfl rfl rfl rfl rfl ?_ | refine s_index rfl rfl rfl rfl rfl rfl rfl (map_get (by assumption)) rfl ?_ | refine s_indexE rfl rfl rfl rfl rfl rfl rfl (by assumption) (map_get (by assumption)) rfl ?_ | fail)
  all_goals try (exfalso; omega)
  all_goals (refine w_fin rfl ?_; repeat' (first | exact Sub.refl _ | exact sub_slNil | exact sub_slice | exact trivial | refine sub_agg ?_ | refine sub_tuple ?_ | refine And.intro ?_ ?_))
theorem new03_ok (m : Int) (h : 0 ≤ m ∧ m ≤ 65536) : Ct Tryz.prog 12 [.t (.int .i64 m)] [] (.tuple [.agg (liftT (dskZ m (-1))), .t (.int .i64 0)]) [] := by
  refine ct0 progOk Tryz.func12 rfl false rfl rfl ?_
  repeat' (first | refine w_stepZ progOk rfl rfl rfl rfl rfl ?_ | refine w_step progOk rfl rfl rfl ?_ | refine w_nil ?_ | refine w_seq ?_ | refine w_reg progOk rfl rfl ?_ | (refine w_gTP rfl rfl rfl rfl rfl (ht := fun h => ?_) (hf := fun h => ?_) <;> try exact prn) | (refine w_gFP rfl rfl rfl rfl rfl (ht := fun h => ?_) (hf := fun h => ?_) <;> try exact prn) | refine w_guardU rfl rfl rfl rfl rfl ?_ | (refine w_condP rfl (ht := fun h => ?_) (hf := fun h => ?_) <;> try exact prn) | refine w_block ?_ | refine w_skip ?_ | refine w_exit ?_ | refine w_ret ?_ | refine w_index progOk rfl rfl rfl rfl rfl rfl rfl (map_get (by assumption)) rfl ?_ | refine w_indexE progOk rfl rfl rfl rfl rfl rfl rfl (by assumption) (map_get (by assumption)) rfl ?_ | refine w_appNil progOk rfl rfl rfl rfl rfl rfl rfl rfl rfl rfl rfl rfl rfl (by simp [chunk]; omega) ?_ | refine w_appRow progOk rfl rfl rfl rfl rfl rfl rfl rfl rfl rfl rfl rfl rfl rfl (by simp [chunk]; omega) ?_ | refine w_nilQ progOk rfl rfl rfl rfl rfl (fun _ => rfl) (fun b hb => ?_) | refine s_step rfl rfl rfl rfl ?_ | refine s_nil ?_ | (refine s_gTP rfl rfl rfl rfl rfl (ht := fun h => ?_) (hf := fun h => ?_) <;> try exact prn) | (refine s_gFP rfl rfl rfl rfl rfl (ht := fun h => ?_) (hf := fun h => ?_) <;> try exact prn) | refine s_guardU rfl rfl rfl rfl rfl ?_ | refine s_index rfl rfl rfl rfl rfl rfl rfl (map_get (by assumption)) rfl ?_ | refine s_indexE rfl rfl rfl rfl rfl rfl rfl (by assumption) (map_get (by assumption)) rfl ?_ | fail)
  all_goals try (exfalso; omega)
  all_goals (refine w_fin rfl ?_; repeat' (first | exact Sub.refl _ | exact sub_slNil | exact sub_slice | exact trivial | refine sub_agg ?_ | refine sub_tuple ?_ | refine And.intro ?_ ?_))
theorem new03_bad (m : Int) (h : ¬ (0 ≤ m ∧ m ≤ 65536)) : Ct Tryz.prog 12 [.t (.int .i64 m)] [] (.tuple [.agg (liftT (dskZ 0 0)), .t (.int .i64 2)]) [] := by
  refine ct0 progOk Tryz.func12 rfl false rfl rfl ?_
  repeat' (first | refine w_stepZ progOk rfl rfl rfl rfl rfl ?_ | refine w_step progOk rfl rfl rfl ?_ | refine w_nil ?_ | refine w_seq ?_ | refine w_reg progOk rfl rfl ?_ | (refine w_gTP rfl rfl rfl rfl rfl (ht := fun h => ?_) (hf := fun h => ?_) <;> try exact prn) | (refine w_gFP rfl rfl rfl rfl rfl (ht := fun h => ?_) (hf := fun h => ?_) <;> try exact prn) | refine w_guardU rfl rfl rfl rfl rfl ?_ | (refine w_condP rfl (ht := fun h => ?_) (hf := fun h => ?_) <;> try exact prn) | refine w_block ?_ | refine w_skip ?_ | refine w_exit ?_ | refine w_ret ?_ | refine w_index progOk rfl rfl rfl rfl rfl rfl rfl (map_get (by assumption)) rfl ?_ | refine w_indexE progOk rfl rfl rfl rfl rfl rfl rfl (by assumption) (map_get (by assumption)) rfl ?_ | refine w_appNil progOk rfl rfl rfl rfl rfl rfl rfl rfl rfl rfl rfl rfl rfl (by simp [chunk]; omega) ?_ | refine w_appRow progOk rfl rfl rfl rfl rfl rfl rfl rfl rfl rfl rfl rfl rfl rfl (by simp [chunk]; omega) ?_ | refine w_nilQ progOk rfl rfl rfl rfl rfl (fun _ => rfl) (fun b hb => ?_) | refine s_step rfl rfl rfl rfl ?_ | refine s_nil ?_ | (refine s_gTP rfl rfl rfl rfl rfl (ht := fun h => ?_) (hf := fun h => ?_) <;> try exact prn) | (refine s_gFP rfl rfl rfl rfl rfl (ht := fun h => ?_) (hf := fun h => ?_) <;> try exact prn) | refine s_guardU rfl rfl rfl rfl rfl ?_ | refine s_index rfl rfl rfl rfl rfl rfl rfl (map_get (by assumption)) rfl ?_ | refine s_indexE rfl rfl rfl rfl rfl rfl rfl (by assumption) (map_get (by assumption)) rfl ?_ | fail)
  all_goals try (exfalso; omega)
  all_goals (refine w_fin rfl ?_; repeat' (first | exact Sub.refl _ | exact sub_slNil | exact sub_slice | exact trivial | refine sub_agg ?_ | refine sub_tuple ?_ | refine And.intro ?_ ?_))
theorem letter_any (e : Int) : Ct Tryz.prog 10 [.t (.int .i8 e)] [] (.t (.str (letN e))) [] := by
  refine ct0 progOk Tryz.func10 rfl false rfl rfl ?_
  repeat' (first | refine w_stepZ progOk rfl rfl rfl rfl rfl ?_ | refine w_step progOk rfl rfl rfl ?_ | refine w_nil ?_ | refine w_seq ?_ | refine w_reg progOk rfl rfl ?_ | (refine w_gTP rfl rfl rfl rfl rfl (ht := fun h => ?_) (hf := fun h => ?_) <;> try exact prn) | (refine w_gFP rfl rfl rfl rfl rfl (ht := fun h => ?_) (hf := fun h => ?_) <;> try exact prn) | refine w_guardU rfl rfl rfl rfl rfl ?_ | (refine w_condP rfl (ht := fun h => ?_) (hf := fun h => ?_) <;> try exact prn) | refine w_block ?_ | refine w_skip ?_ | refine w_exit ?_ | refine w_ret ?_ | refine w_index progOk rfl rfl rfl rfl rfl rfl rfl (map_get (by assumption)) rfl ?_ | refine w_indexE progOk rfl rfl rfl rfl rfl rfl rfl (by assumption) (map_get (by assumption)) rfl ?_ | refine w_appNil progOk rfl rfl rfl rfl rfl rfl rfl rfl rfl rfl rfl rfl rfl (by simp [chunk]; omega) ?_ | refine w_appRow progOk rfl rfl rfl rfl rfl rfl rfl rfl rfl rfl rfl rfl rfl rfl (by simp [chunk]; omega) ?_ | refine w_nilQ progOk rfl rfl rfl rfl rfl (fun _ => rfl) (fun b hb => ?_) | refine s_step rfl rfl rfl rfl ?_ | refine s_nil ?_ | (refine s_gTP rfl rfl rfl rfl rfl (ht := fun h => ?_) (hf := fun h => ?_) <;> try exact prn) | (refine s_gFP rfl rfl rfl rfl rfl (ht := fun h => ?_) (hf := fun h => ?_) <;> try exact prn) | refine s_guardU rfl rfl rfl rfl rfl ?_ | refine s_index rfl rfl rfl rfl rfl rfl rfl (map_get (by assumption)) rfl ?_ | refine s_indexE rfl rfl rfl rfl rfl rfl rfl (by assumption) (map_get (by assumption)) rfl ?_ | fail)
  all_goals exact w_fin rfl (Sub.of_eq (by simp_all [letN]))
theorem letter11_any (e : Int) : Ct Tryz.prog 13 [.t (.int .i8 e)] [] (.t (.str (letN e))) [] := by
  refine ct0 progOk Tryz.func13 rfl false rfl rfl ?_
  repeat' (first | refine w_stepZ progOk rfl rfl rfl rfl rfl ?_ | refine w_step progOk rfl rfl rfl ?_ | refine w_nil ?_ | refine w_seq ?_ | refine w_reg progOk rfl rfl ?_ | (refine w_gTP rfl rfl rfl rfl rfl (ht := fun h => ?_) (hf := fun h => ?_) <;> try exact prn) | (refine w_gFP rfl rfl rfl rfl rfl (ht := fun h => ?_) (hf := fun h => ?_) <;> try exact prn) | refine w_guardU rfl rfl rfl rfl rfl ?_ | (refine w_condP rfl (ht := fun h => ?_) (hf := fun h => ?_) <;> try exact prn) | refine w_block ?_ | refine w_skip ?_ | refine w_exit ?_ | refine w_ret ?_ | refine w_index progOk rfl rfl rfl rfl rfl rfl rfl (map_get (by assumption)) rfl ?_ | refine w_indexE progOk rfl rfl rfl rfl rfl rfl rfl (by assumption) (map_get (by assumption)) rfl ?_ | refine w_appNil progOk rfl rfl rfl rfl rfl rfl rfl rfl rfl rfl rfl rfl rfl (by simp [chunk]; omega) ?_ | refine w_appRow progOk rfl rfl rfl rfl rfl rfl rfl rfl rfl rfl rfl rfl rfl rfl (by simp [chunk]; omega) ?_ | refine w_nilQ progOk rfl rfl rfl rfl rfl (fun _ => rfl) (fun b hb => ?_) | refine s_step rfl rfl rfl rfl ?_ | refine s_nil ?_ | (refine s_gTP rfl rfl rfl rfl rfl (ht := fun h => ?_) (hf := fun h => ?_) <;> try exact prn) | (refine s_gFP rfl rfl rfl rfl rfl (ht := fun h => ?_) (hf := fun h => ?_) <;> try exact prn) | refine s_guardU rfl rfl rfl rfl rfl ?_ | refine s_index rfl rfl rfl rfl rfl rfl rfl (map_get (by assumption)) rfl ?_ | refine s_indexE rfl rfl rfl rfl rfl rfl rfl (by assumption) (map_get (by assumption)) rfl ?_ | fail)
  all_goals exact w_fin rfl (Sub.of_eq (by simp_all [letN]))
end Go.Proofs.YtbcoodmafoalmaaGreatDoor
