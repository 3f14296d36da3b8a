/- Contracts of the program: numbers and texts are put. -/
import Derived.Test.YtpdmaenhenfofaaGreatDoorPa
set_option linter.unusedVariables false
set_option linter.unusedSimpArgs false
namespace Go.Proofs.YtpdmaenhenfofaaGreatDoor
open Go.Am
attribute [local irreducible] Decidable.decide
set_option maxRecDepth 100000
set_option maxHeartbeats 1000000

theorem vint_pos (n : Nat) : 1 ≤ (vint n).length := by
  by_cases h : n < 128
  · rw [vint_lo h]; simp
  · rw [vint_hi h]; simp

theorem len_okN (n : Nat) (hn : n ≤ 1099511627776) : Ct Tryz.prog 223 [.t (.int .i64 n)] [] (.t (.int .i64 ((vint n).length : Int))) [] := by
  have := len_ok n
  rw [if_pos ⟨by omega, by omega⟩] at this
  exact this

theorem vPut_ok (b : Bs) (n : Nat) (hn : n ≤ 1099511627776) (hb : b.length ≤ 1000000000) :
    Ct Tryz.prog 221 [.t (.slice .any 1 (b.map encByte)), .t (.int .i64 n)] [] (.tuple [.row 36 1 0 ((b ++ vint n).map encByte).length, .t (.int .i64 0)]) [(36, .grow 1 ((b ++ vint n).map encByte))] := by
  refine ct1 progOk Tryz.func221 rfl rfl ?_
  have hl := vint_len6 hn
  have hl1 := vint_pos n
  have hlm : (b.map encByte).length = b.length := List.length_map ..
  have hcn : IntKind.i64.wrap (((b.map encByte).length : Int) + ((vint n).length : Int)) = (((b.map encByte).length + (vint n).length : Nat) : Int) := by
    rw [wrap64 (by omega) (by omega)]; omega
  repeat' (first | refine w_stepZ progOk rfl rfl rfl rfl rfl ?_ | refine w_step progOk rfl rfl rfl ?_ | refine w_nil ?_ | refine w_seq ?_ | refine w_reg progOk rfl rfl ?_ | (refine w_gTP rfl rfl rfl rfl rfl (ht := fun h => ?_) (hf := fun h => ?_) <;> try exact prn) | (refine w_gFP rfl rfl rfl rfl rfl (ht := fun h => ?_) (hf := fun h => ?_) <;> try exact prn) | refine w_guardU rfl rfl rfl rfl rfl ?_ | (refine w_condP rfl (ht := fun h => ?_) (hf := fun h => ?_) <;> try exact prn) | refine w_block ?_ | refine w_skip ?_ | refine w_exit ?_ | refine w_ret ?_ | refine w_index progOk rfl rfl rfl rfl rfl rfl rfl (map_get (by assumption)) rfl ?_ | refine w_indexE progOk rfl rfl rfl rfl rfl rfl rfl (by assumption) (map_get (by assumption)) rfl ?_ | refine w_appNil progOk rfl rfl rfl rfl rfl rfl rfl rfl rfl rfl rfl rfl rfl (by simp [chunk]; omega) ?_ | refine w_appRow progOk rfl rfl rfl rfl rfl rfl rfl rfl rfl rfl rfl rfl rfl rfl (by simp [chunk]; omega) ?_ | refine s_step rfl rfl rfl rfl ?_ | refine s_nil ?_ | (refine s_gTP rfl rfl rfl rfl rfl (ht := fun h => ?_) (hf := fun h => ?_) <;> try exact prn) | (refine s_gFP rfl rfl rfl rfl rfl (ht := fun h => ?_) (hf := fun h => ?_) <;> try exact prn) | refine s_guardU rfl rfl rfl rfl rfl ?_ | refine s_index rfl rfl rfl rfl rfl rfl rfl (map_get (by assumption)) rfl ?_ | refine w_call progOk rfl rfl rfl rfl rfl rfl rfl (len_okN n hn) rfl rfl ?_ | refine w_make progOk rfl rfl rfl rfl rfl rfl rfl rfl hcn rfl rfl (by omega) (by omega) ?_ | refine w_copy progOk rfl rfl rfl rfl rfl rfl rfl rfl rfl rfl (by simp) (by simp) rfl ?_ | refine w_callR progOk [(36, 1)] [(1, 36)] rfl rfl rfl rfl rfl (vput_ok b n hn hb) rfl rfl rfl rfl rfl ?_ | fail)
  refine w_fin1 [] rfl rfl rfl (Sub.refl _)

theorem vPut_okF (b : Bs) (n : Int) (h0 : 0 ≤ n) (hn : n ≤ 1099511627776) (hb : b.length ≤ 1000000000) :
    Ct Tryz.prog 221 [.t (.slice .any 1 (b.map encByte)), .t (.int .i64 n)] [] (.tuple [.t (.slice .any 1 ((b ++ vint n.toNat).map encByte)), .t (.int .i64 0)]) [] := by
  obtain ⟨m, rfl⟩ := Int.eq_ofNat_of_zero_le h0
  exact (vPut_ok b m (by omega) hb).freeze2

theorem fnumber_ok (b : Bs) (n : Int) (h0 : 0 ≤ n) (hn : n ≤ 1099511627776) (hb : b.length ≤ 1000000000) :
    Ct Tryz.prog 215 [.t (.slice .any 1 (b.map encByte)), .t (.int .i64 n)] [] (.tuple [.t (.slice .any 1 ((b ++ vint n.toNat).map encByte)), .t (.int .i64 0)]) [] := by
  refine ct0 progOk Tryz.func215 rfl false rfl rfl ?_
  repeat' (first | refine w_stepZ progOk rfl rfl rfl rfl rfl ?_ | refine w_step progOk rfl rfl rfl ?_ | refine w_nil ?_ | refine w_seq ?_ | refine w_reg progOk rfl rfl ?_ | (refine w_gTP rfl rfl rfl rfl rfl (ht := fun h => ?_) (hf := fun h => ?_) <;> try exact prn) | (refine w_gFP rfl rfl rfl rfl rfl (ht := fun h => ?_) (hf := fun h => ?_) <;> try exact prn) | refine w_guardU rfl rfl rfl rfl rfl ?_ | (refine w_condP rfl (ht := fun h => ?_) (hf := fun h => ?_) <;> try exact prn) | refine w_block ?_ | refine w_skip ?_ | refine w_exit ?_ | refine w_ret ?_ | refine w_index progOk rfl rfl rfl rfl rfl rfl rfl (map_get (by assumption)) rfl ?_ | refine w_indexE progOk rfl rfl rfl rfl rfl rfl rfl (by assumption) (map_get (by assumption)) rfl ?_ | refine w_appNil progOk rfl rfl rfl rfl rfl rfl rfl rfl rfl rfl rfl rfl rfl (by simp [chunk]; omega) ?_ | refine w_appRow progOk rfl rfl rfl rfl rfl rfl rfl rfl rfl rfl rfl rfl rfl rfl (by simp [chunk]; omega) ?_ | refine s_step rfl rfl rfl rfl ?_ | refine s_nil ?_ | (refine s_gTP rfl rfl rfl rfl rfl (ht := fun h => ?_) (hf := fun h => ?_) <;> try exact prn) | (refine s_gFP rfl rfl rfl rfl rfl (ht := fun h => ?_) (hf := fun h => ?_) <;> try exact prn) | refine s_guardU rfl rfl rfl rfl rfl ?_ | refine s_index rfl rfl rfl rfl rfl rfl rfl (map_get (by assumption)) rfl ?_ | refine w_call progOk rfl rfl rfl rfl rfl rfl rfl (vPut_okF _ _ h0 hn hb) rfl rfl ?_ | fail)
  exact w_fin rfl (Sub.refl _)

theorem ftext_ok (b s : Bs) (hs : s.length ≤ 1024) (hb : b.length ≤ 1000000000) :
    Ct Tryz.prog 217 [.t (.slice .any 1 (b.map encByte)), .t (.str s)] [] (.tuple [.t (.slice .any 1 ((b ++ textB s).map encByte)), .t (.int .i64 0)]) [] := by
  refine ct0 progOk Tryz.func217 rfl false rfl rfl ?_
  have hl := vint_len6 (n := s.length) (by omega)
  repeat' (first | refine w_stepZ progOk rfl rfl rfl rfl rfl ?_ | refine w_step progOk rfl rfl rfl ?_ | refine w_nil ?_ | refine w_seq ?_ | refine w_reg progOk rfl rfl ?_ | (refine w_gTP rfl rfl rfl rfl rfl (ht := fun h => ?_) (hf := fun h => ?_) <;> try exact prn) | (refine w_gFP rfl rfl rfl rfl rfl (ht := fun h => ?_) (hf := fun h => ?_) <;> try exact prn) | refine w_guardU rfl rfl rfl rfl rfl ?_ | (refine w_condP rfl (ht := fun h => ?_) (hf := fun h => ?_) <;> try exact prn) | refine w_block ?_ | refine w_skip ?_ | refine w_exit ?_ | refine w_ret ?_ | refine w_index progOk rfl rfl rfl rfl rfl rfl rfl (map_get (by assumption)) rfl ?_ | refine w_indexE progOk rfl rfl rfl rfl rfl rfl rfl (by assumption) (map_get (by assumption)) rfl ?_ | refine w_appNil progOk rfl rfl rfl rfl rfl rfl rfl rfl rfl rfl rfl rfl rfl (by simp [chunk]; omega) ?_ | refine w_appRow progOk rfl rfl rfl rfl rfl rfl rfl rfl rfl rfl rfl rfl rfl rfl (by simp [chunk]; omega) ?_ | refine s_step rfl rfl rfl rfl ?_ | refine s_nil ?_ | (refine s_gTP rfl rfl rfl rfl rfl (ht := fun h => ?_) (hf := fun h => ?_) <;> try exact prn) | (refine s_gFP rfl rfl rfl rfl rfl (ht := fun h => ?_) (hf := fun h => ?_) <;> try exact prn) | refine s_guardU rfl rfl rfl rfl rfl ?_ | refine s_index rfl rfl rfl rfl rfl rfl rfl (map_get (by assumption)) rfl ?_ | refine w_callR progOk [] [(36, 30)] rfl rfl rfl rfl rfl (vPut_ok _ s.length (by omega) hb) rfl rfl rfl rfl rfl ?_ | refine w_appStr progOk rfl rfl rfl rfl rfl rfl rfl rfl rfl rfl rfl rfl rfl rfl (by simp [bytesE_len]; omega) ?_ | fail)
  refine w_fin rfl (Sub.of_eq ?_)
  simp [frzA, textB, bytesE_eq]
  exact List.take_of_length_le (by simp)

end Go.Proofs.YtpdmaenhenfofaaGreatDoor
