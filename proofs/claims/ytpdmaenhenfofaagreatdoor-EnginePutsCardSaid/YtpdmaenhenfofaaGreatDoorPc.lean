/- Contracts of the program: slices.Grow, slices.Concat, flags. -/
import Derived.Test.YtpdmaenhenfofaaGreatDoorPb
set_option linter.unusedVariables false
set_option linter.unusedSimpArgs false
namespace Go.Proofs.YtpdmaenhenfofaaGreatDoor
open Go.Am
attribute [local irreducible] Decidable.decide
set_option maxRecDepth 100000
set_option maxHeartbeats 1000000

theorem grow_ok (n : Nat) (h0 : 0 < n) (hn : n ≤ 10000000000) :
    Ct Tryz.prog 222 [.t (.slice .nil 0 []), .t (.int .i64 n)] [] (.row 44 1 0 0) [(44, .grow 1 [])] := by
  refine ct1 progOk Tryz.func222 rfl rfl ?_
  have hw : IntKind.i64.wrap ((n : Int) - IntKind.i64.wrap (0 - ((([] : List (List T)).length : Nat) : Int))) = (n : Int) := by
    have : IntKind.i64.wrap (0 - ((([] : List (List T)).length : Nat) : Int)) = 0 := by rw [wrap64 (by simp) (by simp)]; simp
    rw [this, wrap64 (by omega) (by omega)]; omega
  repeat' (first | refine w_stepZ progOk rfl rfl rfl rfl rfl ?_ | refine w_step progOk rfl rfl rfl ?_ | refine w_nil ?_ | refine w_seq ?_ | refine w_reg progOk rfl rfl ?_ | (refine w_gTP rfl rfl rfl rfl rfl (ht := fun h => ?_) (hf := fun h => ?_) <;> try exact prn) | (refine w_gFP rfl rfl rfl rfl rfl (ht := fun h => ?_) (hf := fun h => ?_) <;> try exact prn) | refine w_guardU rfl rfl rfl rfl rfl ?_ | (refine w_condP rfl (ht := fun h => ?_) (hf := fun h => ?_) <;> try exact prn) | refine w_block ?_ | refine w_skip ?_ | refine w_exit ?_ | refine w_ret ?_ | refine w_index progOk rfl rfl rfl rfl rfl rfl rfl (map_get (by assumption)) rfl ?_ | refine w_indexE progOk rfl rfl rfl rfl rfl rfl rfl (by assumption) (map_get (by assumption)) rfl ?_ | refine w_appNil progOk rfl rfl rfl rfl rfl rfl rfl rfl rfl rfl rfl rfl rfl (by simp [chunk]; omega) ?_ | refine w_appRow progOk rfl rfl rfl rfl rfl rfl rfl rfl rfl rfl rfl rfl rfl rfl (by simp [chunk]; omega) ?_ | refine s_step rfl rfl rfl rfl ?_ | refine s_nil ?_ | (refine s_gTP rfl rfl rfl rfl rfl (ht := fun h => ?_) (hf := fun h => ?_) <;> try exact prn) | (refine s_gFP rfl rfl rfl rfl rfl (ht := fun h => ?_) (hf := fun h => ?_) <;> try exact prn) | refine s_guardU rfl rfl rfl rfl rfl ?_ | refine s_index rfl rfl rfl rfl rfl rfl rfl (map_get (by assumption)) rfl ?_ | refine w_capNil progOk rfl rfl rfl rfl rfl rfl rfl rfl ?_ | refine w_appZeroNil progOk rfl rfl rfl rfl rfl rfl rfl rfl rfl rfl rfl hw rfl rfl h0 (by omega) ?_ | fail)
  exact w_fin1 [] rfl rfl rfl (Sub.refl _)

def encSl (b : Bs) : List T := [.slice .any 1 (b.map encByte)]

theorem flat_take_len {l : List Bs} {i : Nat} : (l.take i).flatten.length ≤ l.flatten.length := by
  have : l.flatten = (l.take i).flatten ++ (l.drop i).flatten := by rw [← List.flatten_append, List.take_append_drop]
  rw [this, List.length_append]; omega

theorem flat_take_succ {l : List Bs} {i : Nat} {b : Bs} (h : l[i]? = some b) : (l.take (i + 1)).flatten = (l.take i).flatten ++ b := by
  rw [take_succ h, List.flatten_append]; simp

theorem concat_ok (l : List Bs) (h0 : 0 < l.flatten.length) (hn : l.flatten.length ≤ 10000000000) (hll : l.length ≤ 1000000) :
    Ct Tryz.prog 216 [.t (.slice .any 1 (l.map encSl))] [] (.t (.slice .any 1 (l.flatten.map encByte))) [] := by
  refine ct0 progOk Tryz.func216 rfl false rfl rfl ?_
  have hlm : (l.map encSl).length = l.length := List.length_map ..
  repeat' (first | refine w_stepZ progOk rfl rfl rfl rfl rfl ?_ | refine w_step progOk rfl rfl rfl ?_ | refine w_nil ?_ | refine w_seq ?_ | refine w_reg progOk rfl rfl ?_ | (refine w_gTP rfl rfl rfl rfl rfl (ht := fun h => ?_) (hf := fun h => ?_) <;> try exact prn) | (refine w_gFP rfl rfl rfl rfl rfl (ht := fun h => ?_) (hf := fun h => ?_) <;> try exact prn) | refine w_guardU rfl rfl rfl rfl rfl ?_ | (refine w_condP rfl (ht := fun h => ?_) (hf := fun h => ?_) <;> try exact prn) | refine w_block ?_ | refine w_skip ?_ | refine w_exit ?_ | refine w_ret ?_ | refine w_index progOk rfl rfl rfl rfl rfl rfl rfl (map_get (by assumption)) rfl ?_ | refine w_indexE progOk rfl rfl rfl rfl rfl rfl rfl (by assumption) (map_get (by assumption)) rfl ?_ | refine w_appNil progOk rfl rfl rfl rfl rfl rfl rfl rfl rfl rfl rfl rfl rfl (by simp [chunk]; omega) ?_ | refine w_appRow progOk rfl rfl rfl rfl rfl rfl rfl rfl rfl rfl rfl rfl rfl rfl (by simp [chunk]; omega) ?_ | refine s_step rfl rfl rfl rfl ?_ | refine s_nil ?_ | (refine s_gTP rfl rfl rfl rfl rfl (ht := fun h => ?_) (hf := fun h => ?_) <;> try exact prn) | (refine s_gFP rfl rfl rfl rfl rfl (ht := fun h => ?_) (hf := fun h => ?_) <;> try exact prn) | refine s_guardU rfl rfl rfl rfl rfl ?_ | refine s_index rfl rfl rfl rfl rfl rfl rfl (map_get (by assumption)) rfl ?_ | fail)
  refine w_loop (ι := Nat) (fun i => i ≤ l.length) (fun i => [(0, .t (.slice .any 1 (l.map encSl))), (9, .t (.slice .any 1 (l.map encSl))), (10, .t (.int .i64 ((l.map encSl).length : Int))), (11, .t (.int .i64 i)), (3, .t (.int .i64 ((l.take i).flatten.length : Int)))]) (fun _ => []) (fun i => l.length - i) 0 (by simp) ?_ ?_
  · exact at_of [] (sub_eq rfl rfl (sub_eq rfl rfl (sub_eq rfl rfl (sub_eq rfl rfl (sub_eq rfl rfl sub_nil))))) rfl
  rintro i hi
  by_cases hlt : i < l.length
  · have hr : l[i]? = some l[i] := List.getElem?_eq_getElem hlt
    generalize l[i] = r at hr
    have hs := flat_take_succ hr
    have hsl := congrArg List.length hs
    rw [List.length_append] at hsl
    have hle := flat_take_len (l := l) (i := i + 1)
    have hrm : (r.map encByte).length = r.length := List.length_map ..
    have hw : IntKind.i64.wrap (((l.take i).flatten.length : Int) + ((r.map encByte).length : Int)) = ((l.take (i + 1)).flatten.length : Int) := by
      rw [wrap64 (by omega) (by omega)]; omega
    repeat' (first | refine w_stepZ progOk rfl rfl rfl rfl rfl ?_ | refine w_step progOk rfl rfl rfl ?_ | refine w_nil ?_ | refine w_seq ?_ | refine w_reg progOk rfl rfl ?_ | (refine w_gTP rfl rfl rfl rfl rfl (ht := fun h => ?_) (hf := fun h => ?_) <;> try exact prn) | (refine w_gFP rfl rfl rfl rfl rfl (ht := fun h => ?_) (hf := fun h => ?_) <;> try exact prn) | refine w_guardU rfl rfl rfl rfl rfl ?_ | (refine w_condP rfl (ht := fun h => ?_) (hf := fun h => ?_) <;> try exact prn) | refine w_block ?_ | refine w_skip ?_ | refine w_exit ?_ | refine w_ret ?_ | refine w_index progOk rfl rfl rfl rfl rfl rfl rfl (map_get (by assumption)) rfl ?_ | refine w_indexE progOk rfl rfl rfl rfl rfl rfl rfl (by assumption) (map_get (by assumption)) rfl ?_ | refine w_appNil progOk rfl rfl rfl rfl rfl rfl rfl rfl rfl rfl rfl rfl rfl (by simp [chunk]; omega) ?_ | refine w_appRow progOk rfl rfl rfl rfl rfl rfl rfl rfl rfl rfl rfl rfl rfl rfl (by simp [chunk]; omega) ?_ | refine s_step rfl rfl rfl rfl ?_ | refine s_nil ?_ | (refine s_gTP rfl rfl rfl rfl rfl (ht := fun h => ?_) (hf := fun h => ?_) <;> try exact prn) | (refine s_gFP rfl rfl rfl rfl rfl (ht := fun h => ?_) (hf := fun h => ?_) <;> try exact prn) | refine s_guardU rfl rfl rfl rfl rfl ?_ | refine s_index rfl rfl rfl rfl rfl rfl rfl (map_get (by assumption)) rfl ?_ | fail)
    refine w_next (i + 1) (by omega) (by omega) [] (sub_eq rfl rfl (sub_eq rfl rfl (sub_eq rfl rfl (sub_eq rfl ?_ (sub_eq rfl (congrArg (fun z => AV.t (T.int .i64 z)) hw) sub_nil))))) rfl
    rw [wrap64 (by omega) (by omega)]; rfl
  · have hall : l.take i = l := List.take_of_length_le (by omega)
    repeat' (first | refine w_stepZ progOk rfl rfl rfl rfl rfl ?_ | refine w_step progOk rfl rfl rfl ?_ | refine w_nil ?_ | refine w_seq ?_ | refine w_reg progOk rfl rfl ?_ | (refine w_gTP rfl rfl rfl rfl rfl (ht := fun h => ?_) (hf := fun h => ?_) <;> try exact prn) | (refine w_gFP rfl rfl rfl rfl rfl (ht := fun h => ?_) (hf := fun h => ?_) <;> try exact prn) | refine w_guardU rfl rfl rfl rfl rfl ?_ | (refine w_condP rfl (ht := fun h => ?_) (hf := fun h => ?_) <;> try exact prn) | refine w_block ?_ | refine w_skip ?_ | refine w_exit ?_ | refine w_ret ?_ | refine w_index progOk rfl rfl rfl rfl rfl rfl rfl (map_get (by assumption)) rfl ?_ | refine w_indexE progOk rfl rfl rfl rfl rfl rfl rfl (by assumption) (map_get (by assumption)) rfl ?_ | refine w_appNil progOk rfl rfl rfl rfl rfl rfl rfl rfl rfl rfl rfl rfl rfl (by simp [chunk]; omega) ?_ | refine w_appRow progOk rfl rfl rfl rfl rfl rfl rfl rfl rfl rfl rfl rfl rfl rfl (by simp [chunk]; omega) ?_ | refine s_step rfl rfl rfl rfl ?_ | refine s_nil ?_ | (refine s_gTP rfl rfl rfl rfl rfl (ht := fun h => ?_) (hf := fun h => ?_) <;> try exact prn) | (refine s_gFP rfl rfl rfl rfl rfl (ht := fun h => ?_) (hf := fun h => ?_) <;> try exact prn) | refine s_guardU rfl rfl rfl rfl rfl ?_ | refine s_index rfl rfl rfl rfl rfl rfl rfl (map_get (by assumption)) rfl ?_ | refine w_callR progOk [] [(44, 48)] rfl rfl rfl rfl rfl (grow_ok (l.take i).flatten.length (by rw [hall]; exact h0) (by rw [hall]; exact hn)) rfl rfl rfl rfl rfl ?_ | fail)
    refine w_loop (ι := Nat) (fun j => j ≤ l.length) (fun j => [(25, .t (.slice .any 1 (l.map encSl))), (26, .t (.int .i64 ((l.map encSl).length : Int))), (27, .t (.int .i64 j)), (6, .row 48 1 0 (((l.take j).flatten).map encByte).length)]) (fun j => [(48, .grow 1 (((l.take j).flatten).map encByte))]) (fun j => l.length - j) 0 (by simp) ?_ ?_
    · exact at_of [] (sub_eq rfl rfl (sub_eq rfl rfl (sub_eq rfl rfl (sub_eq rfl rfl sub_nil)))) rfl
    rintro j hj
    by_cases hlt2 : j < l.length
    · have hr : l[j]? = some l[j] := List.getElem?_eq_getElem hlt2
      generalize l[j] = r at hr
      have hs := flat_take_succ hr
      have hsl := congrArg List.length hs
      rw [List.length_append] at hsl
      have hle := flat_take_len (l := l) (i := j + 1)
      repeat' (first | refine w_stepZ progOk rfl rfl rfl rfl rfl ?_ | refine w_step progOk rfl rfl rfl ?_ | refine w_nil ?_ | refine w_seq ?_ | refine w_reg progOk rfl rfl ?_ | (refine w_gTP rfl rfl rfl rfl rfl (ht := fun h => ?_) (hf := fun h => ?_) <;> try exact prn) | (refine w_gFP rfl rfl rfl rfl rfl (ht := fun h => ?_) (hf := fun h => ?_) <;> try exact prn) | refine w_guardU rfl rfl rfl rfl rfl ?_ | (refine w_condP rfl (ht := fun h => ?_) (hf := fun h => ?_) <;> try exact prn) | refine w_block ?_ | refine w_skip ?_ | refine w_exit ?_ | refine w_ret ?_ | refine w_index progOk rfl rfl rfl rfl rfl rfl rfl (map_get (by assumption)) rfl ?_ | refine w_indexE progOk rfl rfl rfl rfl rfl rfl rfl (by assumption) (map_get (by assumption)) rfl ?_ | refine w_appNil progOk rfl rfl rfl rfl rfl rfl rfl rfl rfl rfl rfl rfl rfl (by simp [chunk]; omega) ?_ | refine w_appRow progOk rfl rfl rfl rfl rfl rfl rfl rfl rfl rfl rfl rfl rfl rfl (by simp [chunk]; omega) ?_ | refine s_step rfl rfl rfl rfl ?_ | refine s_nil ?_ | (refine s_gTP rfl rfl rfl rfl rfl (ht := fun h => ?_) (hf := fun h => ?_) <;> try exact prn) | (refine s_gFP rfl rfl rfl rfl rfl (ht := fun h => ?_) (hf := fun h => ?_) <;> try exact prn) | refine s_guardU rfl rfl rfl rfl rfl ?_ | refine s_index rfl rfl rfl rfl rfl rfl rfl (map_get (by assumption)) rfl ?_ | refine w_appRow progOk rfl rfl rfl rfl rfl rfl rfl rfl rfl rfl rfl rfl rfl rfl (by simp only [List.length_append, List.length_map]; omega) ?_ | fail)
      refine w_next (j + 1) (by omega) (by omega) [] (sub_eq rfl rfl (sub_eq rfl rfl (sub_eq rfl ?_ (sub_eq rfl ?_ sub_nil)))) ?_
      · rw [wrap64 (by omega) (by omega)]; rfl
      · rw [hs, List.map_append]
      · rw [hs, List.map_append]; rfl
    · have hall2 : l.take j = l := List.take_of_length_le (by omega)
      repeat' (first | refine w_stepZ progOk rfl rfl rfl rfl rfl ?_ | refine w_step progOk rfl rfl rfl ?_ | refine w_nil ?_ | refine w_seq ?_ | refine w_reg progOk rfl rfl ?_ | (refine w_gTP rfl rfl rfl rfl rfl (ht := fun h => ?_) (hf := fun h => ?_) <;> try exact prn) | (refine w_gFP rfl rfl rfl rfl rfl (ht := fun h => ?_) (hf := fun h => ?_) <;> try exact prn) | refine w_guardU rfl rfl rfl rfl rfl ?_ | (refine w_condP rfl (ht := fun h => ?_) (hf := fun h => ?_) <;> try exact prn) | refine w_block ?_ | refine w_skip ?_ | refine w_exit ?_ | refine w_ret ?_ | refine w_index progOk rfl rfl rfl rfl rfl rfl rfl (map_get (by assumption)) rfl ?_ | refine w_indexE progOk rfl rfl rfl rfl rfl rfl rfl (by assumption) (map_get (by assumption)) rfl ?_ | refine w_appNil progOk rfl rfl rfl rfl rfl rfl rfl rfl rfl rfl rfl rfl rfl (by simp [chunk]; omega) ?_ | refine w_appRow progOk rfl rfl rfl rfl rfl rfl rfl rfl rfl rfl rfl rfl rfl rfl (by simp [chunk]; omega) ?_ | refine s_step rfl rfl rfl rfl ?_ | refine s_nil ?_ | (refine s_gTP rfl rfl rfl rfl rfl (ht := fun h => ?_) (hf := fun h => ?_) <;> try exact prn) | (refine s_gFP rfl rfl rfl rfl rfl (ht := fun h => ?_) (hf := fun h => ?_) <;> try exact prn) | refine s_guardU rfl rfl rfl rfl rfl ?_ | refine s_index rfl rfl rfl rfl rfl rfl rfl (map_get (by assumption)) rfl ?_ | fail)
      refine w_fin rfl (Sub.of_eq ?_)
      rw [hall2]; exact frzA_row 48 1 _

end Go.Proofs.YtpdmaenhenfofaaGreatDoor
