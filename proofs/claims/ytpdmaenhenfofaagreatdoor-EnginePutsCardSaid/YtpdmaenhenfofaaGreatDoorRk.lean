/- Contracts of references: frames; what is put. -/
import Derived.Test.YtpdmaenhenfofaaGreatDoorRj
set_option linter.unusedVariables false
set_option linter.unusedSimpArgs false
namespace Go.Proofs.YtpdmaenhenfofaaGreatDoor
open Go.Am
attribute [local irreducible] Decidable.decide
set_option maxRecDepth 100000
set_option maxHeartbeats 1000000

def frameB (s : Bs) : Bs := [UInt8.ofNat (s.length % 256), UInt8.ofNat (s.length / 256), 0, 0] ++ s

theorem and255 (n : Nat) (h : n < 9223372036854775808) : (BitVec.ofInt 64 (n : Int) &&& BitVec.ofInt 64 255).toNat = n % 256 := by
  rw [BitVec.toNat_and]
  have h1 : (BitVec.ofInt 64 (n : Int)).toNat = n := by simp [BitVec.toNat_ofInt]; omega
  have h2 : (BitVec.ofInt 64 255).toNat = 255 := rfl
  rw [h1, h2]
  exact Nat.and_two_pow_sub_one_eq_mod n 8

theorem lo_enc {n : Nat} (h : n ≤ 1024) : T.int .u8 (IntKind.u8.wrap (IntKind.i64.wrap (((BitVec.ofInt 64 (n : Int) &&& BitVec.ofInt 64 255).toNat : Nat) : Int))) = T.int .u8 ((UInt8.ofNat (n % 256)).toNat : Int) := by
  rw [and255 n (by omega)]
  exact u8_enc (by rw [wrap64 (by omega) (by omega)]) (by omega)

theorem hi_enc {n : Nat} (h : n ≤ 1024) : T.int .u8 (IntKind.u8.wrap (IntKind.i64.wrap (((BitVec.ofInt 64 ((n : Int).fdiv (2 ^ 8)) &&& BitVec.ofInt 64 255).toNat : Nat) : Int))) = T.int .u8 ((UInt8.ofNat (n / 256)).toNat : Int) := by
  have e : (n : Int).fdiv (2 ^ 8) = ((n / 256 : Nat) : Int) := by
    have h8 : (2 : Int) ^ 8 = 256 := by decide
    rw [h8, Int.fdiv_eq_ediv_of_nonneg _ (by decide)]; omega
  rw [e, and255 (n / 256) (by omega)]
  exact u8_enc (by rw [wrap64 (by omega) (by omega)]; omega) (by omega)

theorem hch {n : Nat} {a b : Int} (h1 : T.int .u8 a = T.int .u8 ((UInt8.ofNat (n % 256)).toNat : Int)) (h2 : T.int .u8 b = T.int .u8 ((UInt8.ofNat (n / 256)).toNat : Int)) : chunk 1 4 [T.int .u8 a, T.int .u8 b, T.int .u8 0, T.int .u8 0] = bytesE [UInt8.ofNat (n % 256), UInt8.ofNat (n / 256), 0, 0] := by
  rw [h1, h2]; rfl

theorem frame4_ok (s : Bs) (h : s.length ≤ 1024) : Ct Tryz.prog 35 [.t (.str s)] [] (.tuple [.t (.str (frameB s)), .t (.int .i64 0)]) [] := by
  refine ct0 progOk Tryz.func35 rfl false rfl rfl ?_
  have e1 := lo_enc h
  have e2 := hi_enc h
  repeat' (first | refine w_stepZ progOk rfl rfl rfl rfl rfl ?_ | refine w_step progOk rfl rfl rfl ?_ | refine w_nil ?_ | refine w_seq ?_ | refine w_reg progOk rfl rfl ?_ | (refine w_gTP rfl rfl rfl rfl rfl (ht := fun h => ?_) (hf := fun h => ?_) <;> try exact prn) | (refine w_gFP rfl rfl rfl rfl rfl (ht := fun h => ?_) (hf := fun h => ?_) <;> try exact prn) | refine w_guardU rfl rfl rfl rfl rfl ?_ | (refine w_condP rfl (ht := fun h => ?_) (hf := fun h => ?_) <;> try exact prn) | refine w_block ?_ | refine w_skip ?_ | refine w_exit ?_ | refine w_ret ?_ | refine w_index progOk rfl rfl rfl rfl rfl rfl rfl (map_get (by assumption)) rfl ?_ | refine w_indexE progOk rfl rfl rfl rfl rfl rfl rfl (by assumption) (map_get (by assumption)) rfl ?_ | refine w_appNil progOk rfl rfl rfl rfl rfl rfl rfl rfl rfl rfl rfl rfl rfl (by simp [chunk]; omega) ?_ | refine w_appRow progOk rfl rfl rfl rfl rfl rfl rfl rfl rfl rfl rfl rfl rfl rfl (by simp [chunk]; omega) ?_ | refine s_step rfl rfl rfl rfl ?_ | refine s_nil ?_ | (refine s_gTP rfl rfl rfl rfl rfl (ht := fun h => ?_) (hf := fun h => ?_) <;> try exact prn) | (refine s_gFP rfl rfl rfl rfl rfl (ht := fun h => ?_) (hf := fun h => ?_) <;> try exact prn) | refine s_guardU rfl rfl rfl rfl rfl ?_ | refine s_index rfl rfl rfl rfl rfl rfl rfl (map_get (by assumption)) rfl ?_ | refine w_convS (s := [UInt8.ofNat (s.length % 256), UInt8.ofNat (s.length / 256), 0, 0]) progOk rfl rfl rfl rfl rfl rfl (hch e1 e2) rfl ?_ | refine w_addS progOk rfl rfl rfl rfl rfl (by simp; omega) ?_ | fail)
  exact w_fin rfl (Sub.refl _)

def greatAll (l : List Entry) : Bool := decide (200 < (l.length : Int)) || l.any greatE

theorem greatAll_ok (l : List Entry) : Ct Tryz.prog 9 [.t (.slice .any 18 (l.map encEntry))] [] (.t (.bool (greatAll l))) [] := by
  refine ct0 progOk Tryz.func9 rfl false rfl rfl ?_
  have hlm : (l.map encEntry).length = l.length := List.length_map ..
  repeat' (first | refine w_stepZ progOk rfl rfl rfl rfl rfl ?_ | refine w_step progOk rfl rfl rfl ?_ | refine w_nil ?_ | refine w_seq ?_ | refine w_reg progOk rfl rfl ?_ | (refine w_gTP rfl rfl rfl rfl rfl (ht := fun h => ?_) (hf := fun h => ?_) <;> try exact prn) | (refine w_gFP rfl rfl rfl rfl rfl (ht := fun h => ?_) (hf := fun h => ?_) <;> try exact prn) | refine w_guardU rfl rfl rfl rfl rfl ?_ | (refine w_condP rfl (ht := fun h => ?_) (hf := fun h => ?_) <;> try exact prn) | refine w_block ?_ | refine w_skip ?_ | refine w_exit ?_ | refine w_ret ?_ | refine w_index progOk rfl rfl rfl rfl rfl rfl rfl (map_get (by assumption)) rfl ?_ | refine w_indexE progOk rfl rfl rfl rfl rfl rfl rfl (by assumption) (map_get (by assumption)) rfl ?_ | refine w_appNil progOk rfl rfl rfl rfl rfl rfl rfl rfl rfl rfl rfl rfl rfl (by simp [chunk]; omega) ?_ | refine w_appRow progOk rfl rfl rfl rfl rfl rfl rfl rfl rfl rfl rfl rfl rfl rfl (by simp [chunk]; omega) ?_ | refine s_step rfl rfl rfl rfl ?_ | refine s_nil ?_ | (refine s_gTP rfl rfl rfl rfl rfl (ht := fun h => ?_) (hf := fun h => ?_) <;> try exact prn) | (refine s_gFP rfl rfl rfl rfl rfl (ht := fun h => ?_) (hf := fun h => ?_) <;> try exact prn) | refine s_guardU rfl rfl rfl rfl rfl ?_ | refine s_index rfl rfl rfl rfl rfl rfl rfl (map_get (by assumption)) rfl ?_ | fail)
  · refine w_fin rfl (subB ?_); rw [hlm] at h; simp [greatAll, h]
  have hle : l.length ≤ 200 := by omega
  have hg : decide (200 < (l.length : Int)) = false := decide_eq_false (by omega)
  refine w_loop (ι := Nat) (fun i => i ≤ l.length ∧ (l.take i).any greatE = false) (fun i => [(0, .t (.slice .any 18 (l.map encEntry))), (3, .t (.int .i64 i))]) (fun _ => []) (fun i => l.length - i) 0 (by simp) ?_ ?_
  · exact at_of [] (sub_eq rfl rfl (sub_eq rfl rfl sub_nil)) rfl
  rintro i ⟨hi, hany⟩
  by_cases hlt : i < l.length
  · have hr : l[i]? = some l[i] := List.getElem?_eq_getElem hlt
    generalize l[i] = r at hr
    repeat' (first | refine w_stepZ progOk rfl rfl rfl rfl rfl ?_ | refine w_step progOk rfl rfl rfl ?_ | refine w_nil ?_ | refine w_seq ?_ | refine w_reg progOk rfl rfl ?_ | (refine w_gTP rfl rfl rfl rfl rfl (ht := fun h => ?_) (hf := fun h => ?_) <;> try exact prn) | (refine w_gFP rfl rfl rfl rfl rfl (ht := fun h => ?_) (hf := fun h => ?_) <;> try exact prn) | refine w_guardU rfl rfl rfl rfl rfl ?_ | (refine w_condP rfl (ht := fun h => ?_) (hf := fun h => ?_) <;> try exact prn) | refine w_block ?_ | refine w_skip ?_ | refine w_exit ?_ | refine w_ret ?_ | refine w_index progOk rfl rfl rfl rfl rfl rfl rfl (map_get (by assumption)) rfl ?_ | refine w_indexE progOk rfl rfl rfl rfl rfl rfl rfl (by assumption) (map_get (by assumption)) rfl ?_ | refine w_appNil progOk rfl rfl rfl rfl rfl rfl rfl rfl rfl rfl rfl rfl rfl (by simp [chunk]; omega) ?_ | refine w_appRow progOk rfl rfl rfl rfl rfl rfl rfl rfl rfl rfl rfl rfl rfl rfl (by simp [chunk]; omega) ?_ | refine s_step rfl rfl rfl rfl ?_ | refine s_nil ?_ | (refine s_gTP rfl rfl rfl rfl rfl (ht := fun h => ?_) (hf := fun h => ?_) <;> try exact prn) | (refine s_gFP rfl rfl rfl rfl rfl (ht := fun h => ?_) (hf := fun h => ?_) <;> try exact prn) | refine s_guardU rfl rfl rfl rfl rfl ?_ | refine s_index rfl rfl rfl rfl rfl rfl rfl (map_get (by assumption)) rfl ?_ | refine w_call progOk rfl rfl rfl rfl rfl rfl rfl (great_ok r) rfl rfl ?_ | fail)
    · exact w_fin rfl (subB (by simp [greatAll, hg, any_of_get hr h]))
    · refine w_next (i + 1) ⟨hlt, any_take_succ hr hany (by simpa using h)⟩ (by omega) [] (sub_eq rfl rfl (sub_eq rfl ?_ sub_nil)) rfl
      rw [wrap64 (by omega) (by omega)]; rfl
  · repeat' (first | refine w_stepZ progOk rfl rfl rfl rfl rfl ?_ | refine w_step progOk rfl rfl rfl ?_ | refine w_nil ?_ | refine w_seq ?_ | refine w_reg progOk rfl rfl ?_ | (refine w_gTP rfl rfl rfl rfl rfl (ht := fun h => ?_) (hf := fun h => ?_) <;> try exact prn) | (refine w_gFP rfl rfl rfl rfl rfl (ht := fun h => ?_) (hf := fun h => ?_) <;> try exact prn) | refine w_guardU rfl rfl rfl rfl rfl ?_ | (refine w_condP rfl (ht := fun h => ?_) (hf := fun h => ?_) <;> try exact prn) | refine w_block ?_ | refine w_skip ?_ | refine w_exit ?_ | refine w_ret ?_ | refine w_index progOk rfl rfl rfl rfl rfl rfl rfl (map_get (by assumption)) rfl ?_ | refine w_indexE progOk rfl rfl rfl rfl rfl rfl rfl (by assumption) (map_get (by assumption)) rfl ?_ | refine w_appNil progOk rfl rfl rfl rfl rfl rfl rfl rfl rfl rfl rfl rfl rfl (by simp [chunk]; omega) ?_ | refine w_appRow progOk rfl rfl rfl rfl rfl rfl rfl rfl rfl rfl rfl rfl rfl rfl (by simp [chunk]; omega) ?_ | refine s_step rfl rfl rfl rfl ?_ | refine s_nil ?_ | (refine s_gTP rfl rfl rfl rfl rfl (ht := fun h => ?_) (hf := fun h => ?_) <;> try exact prn) | (refine s_gFP rfl rfl rfl rfl rfl (ht := fun h => ?_) (hf := fun h => ?_) <;> try exact prn) | refine s_guardU rfl rfl rfl rfl rfl ?_ | refine s_index rfl rfl rfl rfl rfl rfl rfl (map_get (by assumption)) rfl ?_ | fail)
    exact w_fin rfl (subB (by simp [greatAll, hg, any_take_all (by omega) hany]))

end Go.Proofs.YtpdmaenhenfofaaGreatDoor
