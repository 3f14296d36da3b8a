/- Contracts of references: texts, rows of numbers. -/
import Derived.Test.YtpdmaenhenfofaaGreatDoorM8
set_option linter.unusedVariables false
set_option linter.unusedSimpArgs false
namespace Go.Proofs.YtpdmaenhenfofaaGreatDoor
open Go.Am
attribute [local irreducible] Decidable.decide
set_option maxRecDepth 100000
set_option maxHeartbeats 1000000

def nums (l : List Int) : Bs := l.flatMap fun n => vint n.toNat
def textB (s : Bs) : Bs := vint s.length ++ s

theorem bytesE_eq (s : Bs) : bytesE s = s.map encByte := rfl

theorem text_ok (b s : Bs) (hs : s.length ≤ 1024) (hb : b.length ≤ 1000000000) :
    Ct Tryz.prog 67 [.t (.slice .any 1 (b.map encByte)), .t (.str s)] [] (.tuple [.t (.slice .any 1 ((b ++ textB s).map encByte)), .t (.int .i64 0)]) [] := by
  refine ct0 progOk Tryz.func67 rfl false rfl rfl ?_
  have hl := vint_len6 (n := s.length) (by omega)
  repeat' (first | refine w_stepZ progOk rfl rfl rfl rfl rfl ?_ | refine w_step progOk rfl rfl rfl ?_ | refine w_nil ?_ | refine w_seq ?_ | refine w_reg progOk rfl rfl ?_ | (refine w_gTP rfl rfl rfl rfl rfl (ht := fun h => ?_) (hf := fun h => ?_) <;> try exact prn) | (refine w_gFP rfl rfl rfl rfl rfl (ht := fun h => ?_) (hf := fun h => ?_) <;> try exact prn) | refine w_guardU rfl rfl rfl rfl rfl ?_ | (refine w_condP rfl (ht := fun h => ?_) (hf := fun h => ?_) <;> try exact prn) | refine w_block ?_ | refine w_skip ?_ | refine w_exit ?_ | refine w_ret ?_ | refine w_index progOk rfl rfl rfl rfl rfl rfl rfl (map_get (by assumption)) rfl ?_ | refine w_indexE progOk rfl rfl rfl rfl rfl rfl rfl (by assumption) (map_get (by assumption)) rfl ?_ | refine w_appNil progOk rfl rfl rfl rfl rfl rfl rfl rfl rfl rfl rfl rfl rfl (by simp [chunk]; omega) ?_ | refine w_appRow progOk rfl rfl rfl rfl rfl rfl rfl rfl rfl rfl rfl rfl rfl rfl (by simp [chunk]; omega) ?_ | refine w_callR progOk [] [(30, 30)] rfl rfl rfl rfl rfl (put_okZ _ _ (by omega) (by omega) hb) rfl rfl rfl rfl rfl ?_ | refine w_appStr progOk rfl rfl rfl rfl rfl rfl rfl rfl rfl rfl rfl rfl (by simp) rfl (by simp [bytesE_len]; omega) ?_ | fail)
  · refine w_fin rfl (Sub.of_eq ?_)
    simp [frzA, textB, bytesE_eq]
    exact List.take_of_length_le (by simp)

theorem numbers_ok (b : Bs) (l : List Int) (hv : ∀ n ∈ l, 0 ≤ n ∧ n ≤ 1099511627776) (hl : l.length ≤ 1000000) (hb : b.length ≤ 100000000) :
    Ct Tryz.prog 65 [.t (.slice .any 1 (b.map encByte)), .t (.slice .any 1 (l.map encInt))] [] (.t (.slice .any 1 ((b ++ nums l).map encByte))) [] := by
  refine ct0 progOk Tryz.func65 rfl false rfl rfl ?_
  repeat' (first | refine w_stepZ progOk rfl rfl rfl rfl rfl ?_ | refine w_step progOk rfl rfl rfl ?_ | refine w_nil ?_ | refine w_seq ?_ | refine w_reg progOk rfl rfl ?_ | (refine w_gTP rfl rfl rfl rfl rfl (ht := fun h => ?_) (hf := fun h => ?_) <;> try exact prn) | (refine w_gFP rfl rfl rfl rfl rfl (ht := fun h => ?_) (hf := fun h => ?_) <;> try exact prn) | refine w_guardU rfl rfl rfl rfl rfl ?_ | (refine w_condP rfl (ht := fun h => ?_) (hf := fun h => ?_) <;> try exact prn) | refine w_block ?_ | refine w_skip ?_ | refine w_exit ?_ | refine w_ret ?_ | refine w_index progOk rfl rfl rfl rfl rfl rfl rfl (map_get (by assumption)) rfl ?_ | refine w_indexE progOk rfl rfl rfl rfl rfl rfl rfl (by assumption) (map_get (by assumption)) rfl ?_ | refine w_appNil progOk rfl rfl rfl rfl rfl rfl rfl rfl rfl rfl rfl rfl rfl (by simp [chunk]; omega) ?_ | refine w_appRow progOk rfl rfl rfl rfl rfl rfl rfl rfl rfl rfl rfl rfl rfl rfl (by simp [chunk]; omega) ?_ | fail)
  refine w_loop (ι := Nat) (fun i => i ≤ l.length) (fun i => [(0, .t (.slice .any 1 ((b ++ nums (l.take i)).map encByte))), (1, .t (.slice .any 1 (l.map encInt))), (5, .t (.int .i64 i))]) (fun _ => []) (fun i => l.length - i) 0 (by simp) ?_ ?_
  · exact at_of [] (sub_eq rfl (by simp [nums]) (sub_eq rfl rfl (sub_eq rfl rfl sub_nil))) rfl
  rintro i hi
  by_cases hlt : i < l.length
  · have hr : l[i]? = some l[i] := List.getElem?_eq_getElem hlt
    have hv' := hv l[i] (List.getElem_mem hlt)
    generalize l[i] = r at hr hv'
    have hbl : (b ++ nums (l.take i)).length ≤ 1000000000 := by
      have : ∀ (m : List Int), (∀ n ∈ m, 0 ≤ n ∧ n ≤ 1099511627776) → (nums m).length ≤ 6 * m.length := by
        intro m
        induction m with
        | nil => intro _; simp [nums]
        | cons a m ih =>
          intro h
          have h1 := ih fun n hn => h n (by simp [hn])
          have h2 := vint_len6 (n := a.toNat) (by have := h a (by simp); omega)
          simp only [nums, List.flatMap_cons, List.length_append, List.length_cons] at h1 ⊢
          omega
      have h1 := this (l.take i) fun n hn => hv n (List.mem_of_mem_take hn)
      simp at h1 ⊢; omega
    repeat' (first | refine w_stepZ progOk rfl rfl rfl rfl rfl ?_ | refine w_step progOk rfl rfl rfl ?_ | refine w_nil ?_ | refine w_seq ?_ | refine w_reg progOk rfl rfl ?_ | (refine w_gTP rfl rfl rfl rfl rfl (ht := fun h => ?_) (hf := fun h => ?_) <;> try exact prn) | (refine w_gFP rfl rfl rfl rfl rfl (ht := fun h => ?_) (hf := fun h => ?_) <;> try exact prn) | refine w_guardU rfl rfl rfl rfl rfl ?_ | (refine w_condP rfl (ht := fun h => ?_) (hf := fun h => ?_) <;> try exact prn) | refine w_block ?_ | refine w_skip ?_ | refine w_exit ?_ | refine w_ret ?_ | refine w_index progOk rfl rfl rfl rfl rfl rfl rfl (map_get (by assumption)) rfl ?_ | refine w_indexE progOk rfl rfl rfl rfl rfl rfl rfl (by assumption) (map_get (by assumption)) rfl ?_ | refine w_appNil progOk rfl rfl rfl rfl rfl rfl rfl rfl rfl rfl rfl rfl rfl (by simp [chunk]; omega) ?_ | refine w_appRow progOk rfl rfl rfl rfl rfl rfl rfl rfl rfl rfl rfl rfl rfl rfl (by simp [chunk]; omega) ?_ | refine w_call progOk rfl rfl rfl rfl rfl rfl rfl (number_ok _ _ hv'.1 hv'.2 hbl) rfl rfl ?_ | fail)
    · refine w_next (i + 1) (by omega) (by omega) [] (sub_eq rfl ?_ (sub_eq rfl rfl (sub_eq rfl ?_ sub_nil))) rfl
      · rw [take_succ hr]; simp [nums]
      · rw [wrap64 (by omega) (by omega)]; rfl
  · repeat' (first | refine w_stepZ progOk rfl rfl rfl rfl rfl ?_ | refine w_step progOk rfl rfl rfl ?_ | refine w_nil ?_ | refine w_seq ?_ | refine w_reg progOk rfl rfl ?_ | (refine w_gTP rfl rfl rfl rfl rfl (ht := fun h => ?_) (hf := fun h => ?_) <;> try exact prn) | (refine w_gFP rfl rfl rfl rfl rfl (ht := fun h => ?_) (hf := fun h => ?_) <;> try exact prn) | refine w_guardU rfl rfl rfl rfl rfl ?_ | (refine w_condP rfl (ht := fun h => ?_) (hf := fun h => ?_) <;> try exact prn) | refine w_block ?_ | refine w_skip ?_ | refine w_exit ?_ | refine w_ret ?_ | refine w_index progOk rfl rfl rfl rfl rfl rfl rfl (map_get (by assumption)) rfl ?_ | refine w_indexE progOk rfl rfl rfl rfl rfl rfl rfl (by assumption) (map_get (by assumption)) rfl ?_ | refine w_appNil progOk rfl rfl rfl rfl rfl rfl rfl rfl rfl rfl rfl rfl rfl (by simp [chunk]; omega) ?_ | refine w_appRow progOk rfl rfl rfl rfl rfl rfl rfl rfl rfl rfl rfl rfl rfl rfl (by simp [chunk]; omega) ?_ | fail)
    · refine w_fin rfl (Sub.of_eq ?_); rw [List.take_of_length_le (by omega)]

end Go.Proofs.YtpdmaenhenfofaaGreatDoor
