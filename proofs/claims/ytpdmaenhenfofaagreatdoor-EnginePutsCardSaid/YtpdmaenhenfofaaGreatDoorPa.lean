/- Contracts of the program: numbers. -/
import Derived.Test.YtpdmaenhenfofaaGreatDoorRl
set_option linter.unusedVariables false
set_option linter.unusedSimpArgs false
namespace Go.Proofs.YtpdmaenhenfofaaGreatDoor
open Go.Am
attribute [local irreducible] Decidable.decide
set_option maxRecDepth 100000
set_option maxHeartbeats 1000000

theorem and127 (n : Nat) (h : n < 9223372036854775808) : (BitVec.ofInt 64 (n : Int) &&& BitVec.ofInt 64 127).toNat = n % 128 := by
  rw [BitVec.toNat_and]
  have h1 : (BitVec.ofInt 64 (n : Int)).toNat = n := by simp [BitVec.toNat_ofInt]; omega
  have h2 : (BitVec.ofInt 64 127).toNat = 127 := rfl
  rw [h1, h2]
  exact Nat.and_two_pow_sub_one_eq_mod n 7

theorem or128 (n : Nat) (h : n < 128) : (BitVec.ofInt 64 (n : Int) ||| BitVec.ofInt 64 128).toNat = 128 + n := by
  rw [BitVec.toNat_or]
  have h1 : (BitVec.ofInt 64 (n : Int)).toNat = n := by simp [BitVec.toNat_ofInt]; omega
  have h2 : (BitVec.ofInt 64 128).toNat = 128 := rfl
  rw [h1, h2]
  have := Nat.two_pow_add_eq_or_of_lt (i := 7) (b := n) (by omega) 1
  simp at this
  rw [Nat.or_comm]; exact this.symm

theorem shr7 (n : Nat) : (n : Int).fdiv (2 ^ 7) = ((n / 128 : Nat) : Int) := by
  have h8 : (2 : Int) ^ 7 = 128 := by decide
  rw [h8, Int.fdiv_eq_ediv_of_nonneg _ (by decide)]; omega

theorem more_enc {n : Nat} (h : n < 9223372036854775808) : T.int .u8 (IntKind.u8.wrap (IntKind.i64.wrap (((BitVec.ofInt 64 (IntKind.i64.wrap (((BitVec.ofInt 64 (n : Int) &&& BitVec.ofInt 64 127).toNat : Nat) : Int)) ||| BitVec.ofInt 64 128).toNat : Nat) : Int))) = T.int .u8 ((UInt8.ofNat (128 + n % 128)).toNat : Int) := by
  have hw : IntKind.i64.wrap ((n % 128 : Nat) : Int) = ((n % 128 : Nat) : Int) := wrap64 (by omega) (by omega)
  rw [and127 n h, hw, or128 (n % 128) (by omega)]
  exact u8_enc (by rw [wrap64 (by omega) (by omega)]) (by omega)

theorem len_ok (n : Int) : Ct Tryz.prog 223 [.t (.int .i64 n)] [] (.t (.int .i64 (if 0 ≤ n ∧ n ≤ 1099511627776 then ((vint n.toNat).length : Int) else 0))) [] := by
  refine ct0 progOk Tryz.func223 rfl false rfl rfl ?_
  repeat' (first | refine w_stepZ progOk rfl rfl rfl rfl rfl ?_ | refine w_step progOk rfl rfl rfl ?_ | refine w_nil ?_ | refine w_seq ?_ | refine w_reg progOk rfl rfl ?_ | (refine w_gTP rfl rfl rfl rfl rfl (ht := fun h => ?_) (hf := fun h => ?_) <;> try exact prn) | (refine w_gFP rfl rfl rfl rfl rfl (ht := fun h => ?_) (hf := fun h => ?_) <;> try exact prn) | refine w_guardU rfl rfl rfl rfl rfl ?_ | (refine w_condP rfl (ht := fun h => ?_) (hf := fun h => ?_) <;> try exact prn) | refine w_block ?_ | refine w_skip ?_ | refine w_exit ?_ | refine w_ret ?_ | refine w_index progOk rfl rfl rfl rfl rfl rfl rfl (map_get (by assumption)) rfl ?_ | refine w_indexE progOk rfl rfl rfl rfl rfl rfl rfl (by assumption) (map_get (by assumption)) rfl ?_ | refine w_appNil progOk rfl rfl rfl rfl rfl rfl rfl rfl rfl rfl rfl rfl rfl (by simp [chunk]; omega) ?_ | refine w_appRow progOk rfl rfl rfl rfl rfl rfl rfl rfl rfl rfl rfl rfl rfl rfl (by simp [chunk]; omega) ?_ | refine s_step rfl rfl rfl rfl ?_ | refine s_nil ?_ | (refine s_gTP rfl rfl rfl rfl rfl (ht := fun h => ?_) (hf := fun h => ?_) <;> try exact prn) | (refine s_gFP rfl rfl rfl rfl rfl (ht := fun h => ?_) (hf := fun h => ?_) <;> try exact prn) | refine s_guardU rfl rfl rfl rfl rfl ?_ | refine s_index rfl rfl rfl rfl rfl rfl rfl (map_get (by assumption)) rfl ?_ | fail)
  · refine w_fin rfl (Sub.of_eq ?_); rw [if_neg (by omega)]
  · obtain ⟨n, rfl⟩ := Int.eq_ofNat_of_zero_le (by omega : 0 ≤ n)
    rw [if_pos ⟨by omega, by omega⟩]
    have hl := vint_len6 (n := n) (by omega)
    refine w_loop (ι := Nat × Nat) (fun p => p.1 ≤ 1099511627776 ∧ p.2 + (vint p.1).length = (vint n).length + 1) (fun p => [(0, .t (.int .i64 p.1)), (3, .t (.int .i64 p.2))]) (fun _ => []) (fun p => p.1) (n, 1) ⟨by simp; omega, by simp; omega⟩ ?_ ?_
    · exact at_of [] (sub_eq rfl rfl (sub_eq rfl rfl sub_nil)) rfl
    rintro ⟨m, s⟩ ⟨hm, he⟩
    simp only at hm he
    repeat' (first | refine w_stepZ progOk rfl rfl rfl rfl rfl ?_ | refine w_step progOk rfl rfl rfl ?_ | refine w_nil ?_ | refine w_seq ?_ | refine w_reg progOk rfl rfl ?_ | (refine w_gTP rfl rfl rfl rfl rfl (ht := fun h => ?_) (hf := fun h => ?_) <;> try exact prn) | (refine w_gFP rfl rfl rfl rfl rfl (ht := fun h => ?_) (hf := fun h => ?_) <;> try exact prn) | refine w_guardU rfl rfl rfl rfl rfl ?_ | (refine w_condP rfl (ht := fun h => ?_) (hf := fun h => ?_) <;> try exact prn) | refine w_block ?_ | refine w_skip ?_ | refine w_exit ?_ | refine w_ret ?_ | refine w_index progOk rfl rfl rfl rfl rfl rfl rfl (map_get (by assumption)) rfl ?_ | refine w_indexE progOk rfl rfl rfl rfl rfl rfl rfl (by assumption) (map_get (by assumption)) rfl ?_ | refine w_appNil progOk rfl rfl rfl rfl rfl rfl rfl rfl rfl rfl rfl rfl rfl (by simp [chunk]; omega) ?_ | refine w_appRow progOk rfl rfl rfl rfl rfl rfl rfl rfl rfl rfl rfl rfl rfl rfl (by simp [chunk]; omega) ?_ | refine s_step rfl rfl rfl rfl ?_ | refine s_nil ?_ | (refine s_gTP rfl rfl rfl rfl rfl (ht := fun h => ?_) (hf := fun h => ?_) <;> try exact prn) | (refine s_gFP rfl rfl rfl rfl rfl (ht := fun h => ?_) (hf := fun h => ?_) <;> try exact prn) | refine s_guardU rfl rfl rfl rfl rfl ?_ | refine s_index rfl rfl rfl rfl rfl rfl rfl (map_get (by assumption)) rfl ?_ | fail)
    · rw [vint_hi (n := m) (by omega), List.length_cons] at he
      refine w_next (m / 128, s + 1) ⟨by simp; omega, by simp; omega⟩ (by simp; omega) [] (sub_eq rfl (congrArg (fun z => AV.t (T.int .i64 z)) (shr7 m)) (sub_eq rfl ?_ sub_nil)) rfl
      rw [wrap64 (by simp; omega) (by simp; omega)]; rfl
    · rw [vint_lo (n := m) (by omega)] at he
      refine w_fin rfl (Sub.of_eq ?_)
      simp at he ⊢; omega
  · refine w_fin rfl (Sub.of_eq ?_); rw [if_neg (by omega)]

theorem vput_ok (b : Bs) (n : Nat) (hn : n ≤ 1099511627776) (hb : b.length ≤ 1000000000) :
    Ct Tryz.prog 224 [.row 1 1 0 (b.map encByte).length, .t (.int .i64 n)] [(1, .grow 1 (b.map encByte))] (.row 1 1 0 ((b ++ vint n).map encByte).length) [(1, .grow 1 ((b ++ vint n).map encByte))] := by
  refine ct1 progOk Tryz.func224 rfl rfl ?_
  have hl := vint_len6 hn
  repeat' (first | refine w_stepZ progOk rfl rfl rfl rfl rfl ?_ | refine w_step progOk rfl rfl rfl ?_ | refine w_nil ?_ | refine w_seq ?_ | refine w_reg progOk rfl rfl ?_ | (refine w_gTP rfl rfl rfl rfl rfl (ht := fun h => ?_) (hf := fun h => ?_) <;> try exact prn) | (refine w_gFP rfl rfl rfl rfl rfl (ht := fun h => ?_) (hf := fun h => ?_) <;> try exact prn) | refine w_guardU rfl rfl rfl rfl rfl ?_ | (refine w_condP rfl (ht := fun h => ?_) (hf := fun h => ?_) <;> try exact prn) | refine w_block ?_ | refine w_skip ?_ | refine w_exit ?_ | refine w_ret ?_ | refine w_index progOk rfl rfl rfl rfl rfl rfl rfl (map_get (by assumption)) rfl ?_ | refine w_indexE progOk rfl rfl rfl rfl rfl rfl rfl (by assumption) (map_get (by assumption)) rfl ?_ | refine w_appNil progOk rfl rfl rfl rfl rfl rfl rfl rfl rfl rfl rfl rfl rfl (by simp [chunk]; omega) ?_ | refine w_appRow progOk rfl rfl rfl rfl rfl rfl rfl rfl rfl rfl rfl rfl rfl rfl (by simp [chunk]; omega) ?_ | refine s_step rfl rfl rfl rfl ?_ | refine s_nil ?_ | (refine s_gTP rfl rfl rfl rfl rfl (ht := fun h => ?_) (hf := fun h => ?_) <;> try exact prn) | (refine s_gFP rfl rfl rfl rfl rfl (ht := fun h => ?_) (hf := fun h => ?_) <;> try exact prn) | refine s_guardU rfl rfl rfl rfl rfl ?_ | refine s_index rfl rfl rfl rfl rfl rfl rfl (map_get (by assumption)) rfl ?_ | fail)
  refine w_loop (ι := Nat × Bs) (fun p => p.1 ≤ 1099511627776 ∧ p.2 ++ vint p.1 = b ++ vint n) (fun p => [(1, .t (.int .i64 p.1)), (0, .row 1 1 0 (p.2.map encByte).length)]) (fun p => [(1, .grow 1 (p.2.map encByte))]) (fun p => p.1) (n, b) ⟨hn, rfl⟩ ?_ ?_
  · exact at_of [] (sub_eq rfl rfl (sub_eq rfl rfl sub_nil)) rfl
  rintro ⟨m, out⟩ ⟨hm, he⟩
  simp only at hm he
  have hol : out.length ≤ b.length + 6 := by have := congrArg List.length he; simp at this; omega
  repeat' (first | refine w_stepZ progOk rfl rfl rfl rfl rfl ?_ | refine w_step progOk rfl rfl rfl ?_ | refine w_nil ?_ | refine w_seq ?_ | refine w_reg progOk rfl rfl ?_ | (refine w_gTP rfl rfl rfl rfl rfl (ht := fun h => ?_) (hf := fun h => ?_) <;> try exact prn) | (refine w_gFP rfl rfl rfl rfl rfl (ht := fun h => ?_) (hf := fun h => ?_) <;> try exact prn) | refine w_guardU rfl rfl rfl rfl rfl ?_ | (refine w_condP rfl (ht := fun h => ?_) (hf := fun h => ?_) <;> try exact prn) | refine w_block ?_ | refine w_skip ?_ | refine w_exit ?_ | refine w_ret ?_ | refine w_index progOk rfl rfl rfl rfl rfl rfl rfl (map_get (by assumption)) rfl ?_ | refine w_indexE progOk rfl rfl rfl rfl rfl rfl rfl (by assumption) (map_get (by assumption)) rfl ?_ | refine w_appNil progOk rfl rfl rfl rfl rfl rfl rfl rfl rfl rfl rfl rfl rfl (by simp [chunk]; omega) ?_ | refine w_appRow progOk rfl rfl rfl rfl rfl rfl rfl rfl rfl rfl rfl rfl rfl rfl (by simp [chunk]; omega) ?_ | refine s_step rfl rfl rfl rfl ?_ | refine s_nil ?_ | (refine s_gTP rfl rfl rfl rfl rfl (ht := fun h => ?_) (hf := fun h => ?_) <;> try exact prn) | (refine s_gFP rfl rfl rfl rfl rfl (ht := fun h => ?_) (hf := fun h => ?_) <;> try exact prn) | refine s_guardU rfl rfl rfl rfl rfl ?_ | refine s_index rfl rfl rfl rfl rfl rfl rfl (map_get (by assumption)) rfl ?_ | fail)
  · refine w_next (m / 128, out ++ [UInt8.ofNat (128 + m % 128)]) ⟨by simp; omega, ?_⟩ (by simp; omega) [] (sub_eq rfl (congrArg (fun z => AV.t (T.int .i64 z)) (shr7 m)) (sub_eq rfl (by simp [chunk]) sub_nil)) ?_
    · simp only; rw [← he, vint_hi (n := m) (by omega)]; simp
    · have e1 := more_enc (n := m) (by omega)
      simp only [List.map_append, List.map_cons, List.map_nil]
      exact congrArg (fun z => [(1, Blk.grow 1 (List.map encByte out ++ [[z]]))]) e1
  · have e2 : out ++ [UInt8.ofNat m] = b ++ vint n := by rw [← he, vint_lo (by omega)]
    have e1 := u8_enc (n := (m : Int)) (m := m) rfl (by omega)
    refine w_fin1 [] rfl rfl ?_ (Sub.of_eq ?_)
    · rw [← e2]; simp [chunk, ti5, encByte, dropS, killS, e1]
    · rw [← e2]; simp [chunk]

end Go.Proofs.YtpdmaenhenfofaaGreatDoor
