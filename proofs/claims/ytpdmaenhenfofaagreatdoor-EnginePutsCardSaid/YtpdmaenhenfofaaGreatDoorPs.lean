/- Contracts of the program: what is put, as a row. -/
import Derived.Test.YtpdmaenhenfofaaGreatDoorPq
set_option linter.unusedVariables false
set_option linter.unusedSimpArgs false
namespace Go.Proofs.YtpdmaenhenfofaaGreatDoor
open Go.Am
attribute [local irreducible] Decidable.decide
set_option maxRecDepth 100000
set_option maxHeartbeats 1000000

theorem eput_row (name : Bs) (l : List Entry) (hl : l.length ≤ 1000000) (hsm : ∀ x ∈ l, smallE x) (hne : l ≠ []) (hall : l.all mayE = true) : Ct Tryz.prog 11 [.t (.str name), .t (.slice .any 18 (l.map encEntry))] [] (.tuple [.row 86 4 0 ((putW name l).map encWr).length, .t (.int .i64 0)]) [(86, .grow 4 ((putW name l).map encWr))] := by
  refine ct1 progOk Tryz.func11 rfl rfl ?_
  have cl := loads_ok l hl hsm
  · simp only [if_pos hall] at cl
    have hlm : ((l.map entryB).map encStr).length = l.length := by simp
    repeat' (first | refine w_stepZ progOk rfl rfl rfl rfl rfl ?_ | refine w_step progOk rfl rfl rfl ?_ | refine w_nil ?_ | refine w_seq ?_ | refine w_reg progOk rfl rfl ?_ | (refine w_gTP rfl rfl rfl rfl rfl (ht := fun h => ?_) (hf := fun h => ?_) <;> try exact prn) | (refine w_gFP rfl rfl rfl rfl rfl (ht := fun h => ?_) (hf := fun h => ?_) <;> try exact prn) | refine w_guardU rfl rfl rfl rfl rfl ?_ | (refine w_condP rfl (ht := fun h => ?_) (hf := fun h => ?_) <;> try exact prn) | refine w_block ?_ | refine w_skip ?_ | refine w_exit ?_ | refine w_ret ?_ | refine w_index progOk rfl rfl rfl rfl rfl rfl rfl (map_get (by assumption)) rfl ?_ | refine w_indexE progOk rfl rfl rfl rfl rfl rfl rfl (by assumption) (map_get (by assumption)) rfl ?_ | refine w_appNil progOk rfl rfl rfl rfl rfl rfl rfl rfl rfl rfl rfl rfl rfl (by simp [chunk]; omega) ?_ | refine w_appRow progOk rfl rfl rfl rfl rfl rfl rfl rfl rfl rfl rfl rfl rfl rfl (by simp [chunk]; omega) ?_ | refine s_step rfl rfl rfl rfl ?_ | refine s_nil ?_ | (refine s_gTP rfl rfl rfl rfl rfl (ht := fun h => ?_) (hf := fun h => ?_) <;> try exact prn) | (refine s_gFP rfl rfl rfl rfl rfl (ht := fun h => ?_) (hf := fun h => ?_) <;> try exact prn) | refine s_guardU rfl rfl rfl rfl rfl ?_ | refine s_index rfl rfl rfl rfl rfl rfl rfl (map_get (by assumption)) rfl ?_ | refine w_call progOk rfl rfl rfl rfl rfl rfl rfl (cl) rfl rfl ?_ | fail)
    · exact absurd (List.eq_nil_of_length_eq_zero (by omega)) hne
    refine Tr.nilRow 8 43 4 rfl rfl ?_
    refine w_loop (ι := Nat) (fun i => i ≤ l.length) (fun i => [(0, .t (.str name)), (8, .row 86 4 0 (((l.take i).map (wrOf name)).map encWr).length), (25, .t (.slice .any 1 ((l.map entryB).map encStr))), (26, .t (.int .i64 l.length)), (27, .t (.int .i64 i))]) (fun i => [(86, .grow 4 (((l.take i).map (wrOf name)).map encWr))]) (fun i => l.length - i) 0 (by simp) ?_ ?_
    · exact at_of [] (sub_eq rfl rfl (sub_eq rfl rfl (sub_eq rfl rfl (sub_eq rfl (by rw [hlm]) (sub_eq rfl rfl sub_nil))))) rfl
    rintro i hi
    by_cases hlt : i < l.length
    · have hr : l[i]? = some l[i] := List.getElem?_eq_getElem hlt
      have hm := List.all_eq_true.1 hall l[i] (List.getElem_mem hlt)
      generalize l[i] = r at hr hm
      have hr2 : (l.map entryB)[i]? = some (entryB r) := by simp [hr]
      repeat' (first | refine w_stepZ progOk rfl rfl rfl rfl rfl ?_ | refine w_step progOk rfl rfl rfl ?_ | refine w_nil ?_ | refine w_seq ?_ | refine w_reg progOk rfl rfl ?_ | (refine w_gTP rfl rfl rfl rfl rfl (ht := fun h => ?_) (hf := fun h => ?_) <;> try exact prn) | (refine w_gFP rfl rfl rfl rfl rfl (ht := fun h => ?_) (hf := fun h => ?_) <;> try exact prn) | refine w_guardU rfl rfl rfl rfl rfl ?_ | (refine w_condP rfl (ht := fun h => ?_) (hf := fun h => ?_) <;> try exact prn) | refine w_block ?_ | refine w_skip ?_ | refine w_exit ?_ | refine w_ret ?_ | refine w_index progOk rfl rfl rfl rfl rfl rfl rfl (map_get (by assumption)) rfl ?_ | refine w_indexE progOk rfl rfl rfl rfl rfl rfl rfl (by assumption) (map_get (by assumption)) rfl ?_ | refine w_appNil progOk rfl rfl rfl rfl rfl rfl rfl rfl rfl rfl rfl rfl rfl (by simp [chunk]; omega) ?_ | refine w_appRow progOk rfl rfl rfl rfl rfl rfl rfl rfl rfl rfl rfl rfl rfl rfl (by simp [chunk]; omega) ?_ | refine s_step rfl rfl rfl rfl ?_ | refine s_nil ?_ | (refine s_gTP rfl rfl rfl rfl rfl (ht := fun h => ?_) (hf := fun h => ?_) <;> try exact prn) | (refine s_gFP rfl rfl rfl rfl rfl (ht := fun h => ?_) (hf := fun h => ?_) <;> try exact prn) | refine s_guardU rfl rfl rfl rfl rfl ?_ | refine s_index rfl rfl rfl rfl rfl rfl rfl (map_get (by assumption)) rfl ?_ | refine w_call progOk rfl rfl rfl rfl rfl rfl rfl (fbytes_ok _ (entryB_len hm)) rfl rfl ?_ | fail)
      refine w_next (i + 1) hlt (by omega) [] (sub_eq rfl rfl (sub_eq rfl ?_ (sub_eq rfl rfl (sub_eq rfl rfl (sub_eq rfl ?_ sub_nil))))) ?_
      · rw [take_succ hr]; simp [chunk]
      · rw [wrap64 (by omega) (by omega)]; rfl
      · rw [take_succ hr]; simp [chunk, ti88, encWr, wrOf, dropS, killS]
    · repeat' (first | refine w_stepZ progOk rfl rfl rfl rfl rfl ?_ | refine w_step progOk rfl rfl rfl ?_ | refine w_nil ?_ | refine w_seq ?_ | refine w_reg progOk rfl rfl ?_ | (refine w_gTP rfl rfl rfl rfl rfl (ht := fun h => ?_) (hf := fun h => ?_) <;> try exact prn) | (refine w_gFP rfl rfl rfl rfl rfl (ht := fun h => ?_) (hf := fun h => ?_) <;> try exact prn) | refine w_guardU rfl rfl rfl rfl rfl ?_ | (refine w_condP rfl (ht := fun h => ?_) (hf := fun h => ?_) <;> try exact prn) | refine w_block ?_ | refine w_skip ?_ | refine w_exit ?_ | refine w_ret ?_ | refine w_index progOk rfl rfl rfl rfl rfl rfl rfl (map_get (by assumption)) rfl ?_ | refine w_indexE progOk rfl rfl rfl rfl rfl rfl rfl (by assumption) (map_get (by assumption)) rfl ?_ | refine w_appNil progOk rfl rfl rfl rfl rfl rfl rfl rfl rfl rfl rfl rfl rfl (by simp [chunk]; omega) ?_ | refine w_appRow progOk rfl rfl rfl rfl rfl rfl rfl rfl rfl rfl rfl rfl rfl rfl (by simp [chunk]; omega) ?_ | refine s_step rfl rfl rfl rfl ?_ | refine s_nil ?_ | (refine s_gTP rfl rfl rfl rfl rfl (ht := fun h => ?_) (hf := fun h => ?_) <;> try exact prn) | (refine s_gFP rfl rfl rfl rfl rfl (ht := fun h => ?_) (hf := fun h => ?_) <;> try exact prn) | refine s_guardU rfl rfl rfl rfl rfl ?_ | refine s_index rfl rfl rfl rfl rfl rfl rfl (map_get (by assumption)) rfl ?_ | fail)
      rw [List.take_of_length_le (by omega)]
      have eW : ((l.map (wrOf name)).map encWr) ++ chunk 4 1 [T.int .i8 1, .str name, .str [], .int .i64 0] = (putW name l).map encWr := by simp [putW, chunk, encWr]
      refine w_fin1 [] rfl rfl ?_ (Sub.of_eq ?_)
      · rw [← eW]; rfl
      · rw [← eW]; rfl

end Go.Proofs.YtpdmaenhenfofaaGreatDoor
