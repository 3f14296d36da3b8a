/- Contracts and laws, joined: Pa, Pb, Pc, Pd, Pe, Pf. No condition beside those that each theorem names. -/
import Derived.Test.YtpdmaenhenfofaaGreatDoorZJ2
set_option linter.unusedVariables false
set_option linter.unusedSimpArgs false
namespace Go.Proofs.YtpdmaenhenfofaaGreatDoor
open Go.Am
attribute [local irreducible] Decidable.decide
set_option maxRecDepth 100000
set_option maxHeartbeats 1000000
theorem and127 (n : Nat) (h : n < 9223372036854775808) : (BitVec.ofInt 64 (n : Int) &&& BitVec.ofInt 64 127).toNat = n % 128 := by
  rw [BitVec.toNat_and]
  have h1 : (BitVec.ofInt 64 (n : Int)).toNat = n := by simp [BitVec.toNat_ofInt]; omega
  have h2 : (BitVec.ofInt 64 127).toNat = 127 := rfl
  rw [h1, h2]
  exact Nat.and_two_pow_sub_one_eq_mod n 7
theorem or128 (n : Nat) (h : n < 128) : (BitVec.ofInt 64 (n : Int) ||| BitVec.ofInt 64 128).toNat = 128 + n := by
  rw [BitVec.toNat_or]
  have h1 : (BitVec.ofInt 64 (n : Int)).toNat = n := by simp [BitVec.toNat_ofInt]; omega
  have h2 : (BitVec.ofInt 64 128).toNat = 128 := rfl
  rw [h1, h2]
  have := Nat.two_pow_add_eq_or_of_lt (i := 7) (b := n) (by omega) 1
  simp at this
  rw [Nat.or_comm]; exact this.symm
theorem shr7 (n : Nat) : (n : Int).fdiv (2 ^ 7) = ((n / 128 : Nat) : Int) := by
  have h8 : (2 : Int) ^ 7 = 128 := by decide
  rw [h8, Int.fdiv_eq_ediv_of_nonneg _ (by decide)]; omega
theorem more_enc {n : Nat} (h : n < 9223372036854775808) : T.int .u8 (IntKind.u8.wrap (IntKind.i64.wrap (((BitVec.ofInt 64 (IntKind.i64.wrap (((BitVec.ofInt 64 (n : Int) &&& BitVec.ofInt 64 127).toNat : Nat) : Int)) ||| BitVec.ofInt 64 128).toNat : Nat) : Int))) = T.int .u8 ((UInt8.ofNat (128 + n % 128)).toNat : Int) := by
  have hw : IntKind.i64.wrap ((n % 128 : Nat) : Int) = ((n % 128 : Nat) : Int) := wrap64 (by omega) (by omega)
  rw [and127 n h, hw, or128 (n % 128) (by omega)]
  exact u8_enc (by rw [wrap64 (by omega) (by omega)]) (by omega)
theorem len_ok (n : Int) : Ct Tryz.prog 223 [.t (.int .i64 n)] [] (.t (.int .i64 (if 0 ≤ n ∧ n ≤ 1099511627776 then ((vint n.toNat).length : Int) else 0))) [] := by
  refine ct0 progOk Tryz.func223 rfl false rfl rfl ?_
  repeat' (first | refine w_step progOk rfl rfl rfl ?_ | refine w_nil ?_ | refine w_seq ?_ | refine w_reg progOk rfl rfl ?_ | (refine w_gFP rfl rfl rfl rfl rfl (ht := fun h => ?_) (hf := fun h => ?_) <;> try exact prn) | (refine w_condP rfl (ht := fun h => ?_) (hf := fun h => ?_) <;> try exact prn) | refine w_block ?_ | refine w_skip ?_ | refine w_ret ?_ | fail)
  · refine w_fin rfl (Sub.of_eq ?_); rw [if_neg (by omega)]
  · obtain ⟨n, rfl⟩ := Int.eq_ofNat_of_zero_le (by omega : 0 ≤ n)
    rw [if_pos ⟨by omega, by omega⟩]
    have hl := vint_len6 (n := n) (by omega)
    refine w_loop (ι := Nat × Nat) (fun p => p.1 ≤ 1099511627776 ∧ p.2 + (vint p.1).length = (vint n).length + 1) (fun p => [(0, .t (.int .i64 p.1)), (3, .t (.int .i64 p.2))]) (fun _ => []) (fun p => p.1) (n, 1) ⟨by simp; omega, by simp; omega⟩ ?_ ?_
    · exact at_of [] (sub_eq rfl rfl (sub_eq rfl rfl sub_nil)) rfl
    rintro ⟨m, s⟩ ⟨hm, he⟩
    simp only at hm he
    repeat' (first | refine w_step progOk rfl rfl rfl ?_ | refine w_nil ?_ | refine w_seq ?_ | refine w_reg progOk rfl rfl ?_ | (refine w_condP rfl (ht := fun h => ?_) (hf := fun h => ?_) <;> try exact prn) | refine w_block ?_ | refine w_skip ?_ | refine w_exit ?_ | refine w_ret ?_ | fail)
    · rw [vint_hi (n := m) (by omega), List.length_cons] at he
      refine w_next (m / 128, s + 1) ⟨by simp; omega, by simp; omega⟩ (by simp; omega) [] (sub_eq rfl (congrArg (fun z => AV.t (T.int .i64 z)) (shr7 m)) (sub_eq rfl ?_ sub_nil)) rfl
      rw [wrap64 (by simp; omega) (by simp; omega)]; rfl
    · rw [vint_lo (n := m) (by omega)] at he
      refine w_fin rfl (Sub.of_eq ?_)
      simp at he ⊢; omega
  · refine w_fin rfl (Sub.of_eq ?_); rw [if_neg (by omega)]
theorem vput_ok (b : Bs) (n : Nat) (hn : n ≤ 1099511627776) (hb : b.length ≤ 1000000000) :
    Ct Tryz.prog 224 [.row 1 1 0 (b.map encByte).length, .t (.int .i64 n)] [(1, .grow 1 (b.map encByte))] (.row 1 1 0 ((b ++ vint n).map encByte).length) [(1, .grow 1 ((b ++ vint n).map encByte))] := by
  refine ct1 progOk Tryz.func224 rfl rfl ?_
  have hl := vint_len6 hn
  repeat' (first | refine w_step progOk rfl rfl rfl ?_ | refine w_nil ?_ | refine w_seq ?_ | refine w_reg progOk rfl rfl ?_ | refine w_block ?_ | fail)
  refine w_loop (ι := Nat × Bs) (fun p => p.1 ≤ 1099511627776 ∧ p.2 ++ vint p.1 = b ++ vint n) (fun p => [(1, .t (.int .i64 p.1)), (0, .row 1 1 0 (p.2.map encByte).length)]) (fun p => [(1, .grow 1 (p.2.map encByte))]) (fun p => p.1) (n, b) ⟨hn, rfl⟩ ?_ ?_
  · exact at_of [] (sub_eq rfl rfl (sub_eq rfl rfl sub_nil)) rfl
  rintro ⟨m, out⟩ ⟨hm, he⟩
  simp only at hm he
  have hol : out.length ≤ b.length + 6 := by have := congrArg List.length he; simp at this; omega
  repeat' (first | refine w_stepZ progOk rfl rfl rfl rfl rfl ?_ | refine w_step progOk rfl rfl rfl ?_ | refine w_nil ?_ | refine w_seq ?_ | refine w_reg progOk rfl rfl ?_ | (refine w_condP rfl (ht := fun h => ?_) (hf := fun h => ?_) <;> try exact prn) | refine w_block ?_ | refine w_skip ?_ | refine w_exit ?_ | refine w_ret ?_ | refine w_appRow progOk rfl rfl rfl rfl rfl rfl rfl rfl rfl rfl rfl rfl rfl rfl (by simp [chunk]; omega) ?_ | fail)
  · refine w_next (m / 128, out ++ [UInt8.ofNat (128 + m % 128)]) ⟨by simp; omega, ?_⟩ (by simp; omega) [] (sub_eq rfl (congrArg (fun z => AV.t (T.int .i64 z)) (shr7 m)) (sub_eq rfl (by simp [chunk]) sub_nil)) ?_
    · simp only; rw [← he, vint_hi (n := m) (by omega)]; simp
    · have e1 := more_enc (n := m) (by omega)
      simp only [List.map_append, List.map_cons, List.map_nil]
      exact congrArg (fun z => [(1, Blk.grow 1 (List.map encByte out ++ [[z]]))]) e1
  · have e2 : out ++ [UInt8.ofNat m] = b ++ vint n := by rw [← he, vint_lo (by omega)]
    have e1 := u8_enc (n := (m : Int)) (m := m) rfl (by omega)
    refine w_fin1 [] rfl rfl ?_ (Sub.of_eq ?_)
    · rw [← e2]; simp [chunk, ti5, encByte, dropS, killS, e1]
    · rw [← e2]; simp [chunk]
end Go.Proofs.YtpdmaenhenfofaaGreatDoor

namespace Go.Proofs.YtpdmaenhenfofaaGreatDoor
open Go.Am
attribute [local irreducible] Decidable.decide
set_option maxRecDepth 100000
set_option maxHeartbeats 1000000
theorem vint_pos (n : Nat) : 1 ≤ (vint n).length := by
  by_cases h : n < 128
  · rw [vint_lo h]; simp
  · rw [vint_hi h]; simp
theorem len_okN (n : Nat) (hn : n ≤ 1099511627776) : Ct Tryz.prog 223 [.t (.int .i64 n)] [] (.t (.int .i64 ((vint n).length : Int))) [] := by
  have := len_ok n
  rw [if_pos ⟨by omega, by omega⟩] at this
  exact this
theorem vPut_ok (b : Bs) (n : Nat) (hn : n ≤ 1099511627776) (hb : b.length ≤ 1000000000) :
    Ct Tryz.prog 221 [.t (.slice .any 1 (b.map encByte)), .t (.int .i64 n)] [] (.tuple [.row 36 1 0 ((b ++ vint n).map encByte).length, .t (.int .i64 0)]) [(36, .grow 1 ((b ++ vint n).map encByte))] := by
  refine ct1 progOk Tryz.func221 rfl rfl ?_
  have hl := vint_len6 hn
  have hl1 := vint_pos n
  have hlm : (b.map encByte).length = b.length := List.length_map ..
  have hcn : IntKind.i64.wrap (((b.map encByte).length : Int) + ((vint n).length : Int)) = (((b.map encByte).length + (vint n).length : Nat) : Int) := by
    rw [wrap64 (by omega) (by omega)]; omega
  repeat' (first | refine w_step progOk rfl rfl rfl ?_ | refine w_nil ?_ | refine w_seq ?_ | refine w_reg progOk rfl rfl ?_ | (refine w_condP rfl (ht := fun h => ?_) (hf := fun h => ?_) <;> try exact prn) | refine w_skip ?_ | refine w_ret ?_ | refine w_call progOk rfl rfl rfl rfl rfl rfl rfl (len_okN n hn) rfl rfl ?_ | refine w_make progOk rfl rfl rfl rfl rfl rfl rfl rfl hcn rfl rfl (by omega) (by omega) ?_ | refine w_copy progOk rfl rfl rfl rfl rfl rfl rfl rfl rfl rfl (by simp) (by simp) rfl ?_ | refine w_callR progOk [(36, 1)] [(1, 36)] rfl rfl rfl rfl rfl (vput_ok b n hn hb) rfl rfl rfl rfl rfl ?_ | fail)
  refine w_fin1 [] rfl rfl rfl (Sub.refl _)
theorem vPut_okF (b : Bs) (n : Int) (h0 : 0 ≤ n) (hn : n ≤ 1099511627776) (hb : b.length ≤ 1000000000) :
    Ct Tryz.prog 221 [.t (.slice .any 1 (b.map encByte)), .t (.int .i64 n)] [] (.tuple [.t (.slice .any 1 ((b ++ vint n.toNat).map encByte)), .t (.int .i64 0)]) [] := by
  obtain ⟨m, rfl⟩ := Int.eq_ofNat_of_zero_le h0
  exact (vPut_ok b m (by omega) hb).freeze2
theorem fnumber_ok (b : Bs) (n : Int) (h0 : 0 ≤ n) (hn : n ≤ 1099511627776) (hb : b.length ≤ 1000000000) :
    Ct Tryz.prog 215 [.t (.slice .any 1 (b.map encByte)), .t (.int .i64 n)] [] (.tuple [.t (.slice .any 1 ((b ++ vint n.toNat).map encByte)), .t (.int .i64 0)]) [] := by
  refine ct0 progOk Tryz.func215 rfl false rfl rfl ?_
  repeat' (first | refine w_step progOk rfl rfl rfl ?_ | refine w_nil ?_ | refine w_seq ?_ | refine w_reg progOk rfl rfl ?_ | refine w_ret ?_ | refine w_call progOk rfl rfl rfl rfl rfl rfl rfl (vPut_okF _ _ h0 hn hb) rfl rfl ?_ | fail)
  exact w_fin rfl (Sub.refl _)
theorem ftext_ok (b s : Bs) (hs : s.length ≤ 1024) (hb : b.length ≤ 1000000000) :
    Ct Tryz.prog 217 [.t (.slice .any 1 (b.map encByte)), .t (.str s)] [] (.tuple [.t (.slice .any 1 ((b ++ textB s).map encByte)), .t (.int .i64 0)]) [] := by
  refine ct0 progOk Tryz.func217 rfl false rfl rfl ?_
  have hl := vint_len6 (n := s.length) (by omega)
  repeat' (first | refine w_step progOk rfl rfl rfl ?_ | refine w_nil ?_ | refine w_seq ?_ | refine w_reg progOk rfl rfl ?_ | (refine w_condP rfl (ht := fun h => ?_) (hf := fun h => ?_) <;> try exact prn) | refine w_skip ?_ | refine w_ret ?_ | refine w_callR progOk [] [(36, 30)] rfl rfl rfl rfl rfl (vPut_ok _ s.length (by omega) hb) rfl rfl rfl rfl rfl ?_ | refine w_appStr progOk rfl rfl rfl rfl rfl rfl rfl rfl rfl rfl rfl rfl rfl rfl (by simp [bytesE_len]; omega) ?_ | fail)
  refine w_fin rfl (Sub.of_eq ?_)
  simp [frzA, textB, bytesE_eq]
  exact List.take_of_length_le (by simp)
end Go.Proofs.YtpdmaenhenfofaaGreatDoor

namespace Go.Proofs.YtpdmaenhenfofaaGreatDoor
open Go.Am
attribute [local irreducible] Decidable.decide
set_option maxRecDepth 100000
set_option maxHeartbeats 1000000
theorem grow_ok (n : Nat) (h0 : 0 < n) (hn : n ≤ 10000000000) :
    Ct Tryz.prog 222 [.t (.slice .nil 0 []), .t (.int .i64 n)] [] (.row 44 1 0 0) [(44, .grow 1 [])] := by
  refine ct1 progOk Tryz.func222 rfl rfl ?_
  have hw : IntKind.i64.wrap ((n : Int) - IntKind.i64.wrap (0 - ((([] : List (List T)).length : Nat) : Int))) = (n : Int) := by
    have : IntKind.i64.wrap (0 - ((([] : List (List T)).length : Nat) : Int)) = 0 := by rw [wrap64 (by simp) (by simp)]; simp
    rw [this, wrap64 (by omega) (by omega)]; omega
  repeat' (first | refine w_step progOk rfl rfl rfl ?_ | refine w_nil ?_ | refine w_seq ?_ | refine w_reg progOk rfl rfl ?_ | (refine w_condP rfl (ht := fun h => ?_) (hf := fun h => ?_) <;> try exact prn) | refine w_skip ?_ | refine w_ret ?_ | refine w_capNil progOk rfl rfl rfl rfl rfl rfl rfl rfl ?_ | refine w_appZeroNil progOk rfl rfl rfl rfl rfl rfl rfl rfl rfl rfl rfl hw rfl rfl h0 (by omega) ?_ | fail)
  exact w_fin1 [] rfl rfl rfl (Sub.refl _)
def encSl (b : Bs) : List T := [.slice .any 1 (b.map encByte)]
theorem flat_take_len {l : List Bs} {i : Nat} : (l.take i).flatten.length ≤ l.flatten.length := by
  have : l.flatten = (l.take i).flatten ++ (l.drop i).flatten := by rw [← List.flatten_append, List.take_append_drop]
  rw [this, List.length_append]; omega
theorem flat_take_succ {l : List Bs} {i : Nat} {b : Bs} (h : l[i]? = some b) : (l.take (i + 1)).flatten = (l.take i).flatten ++ b := by
  rw [take_succ h, List.flatten_append]; simp
theorem concat_ok (l : List Bs) (h0 : 0 < l.flatten.length) (hn : l.flatten.length ≤ 10000000000) (hll : l.length ≤ 1000000) :
    Ct Tryz.prog 216 [.t (.slice .any 1 (l.map encSl))] [] (.t (.slice .any 1 (l.flatten.map encByte))) [] := by
  refine ct0 progOk Tryz.func216 rfl false rfl rfl ?_
  have hlm : (l.map encSl).length = l.length := List.length_map ..
  repeat' (first | refine w_step progOk rfl rfl rfl ?_ | refine w_nil ?_ | refine w_seq ?_ | refine w_reg progOk rfl rfl ?_ | refine w_block ?_ | fail)
  refine w_loop (ι := Nat) (fun i => i ≤ l.length) (fun i => [(0, .t (.slice .any 1 (l.map encSl))), (9, .t (.slice .any 1 (l.map encSl))), (10, .t (.int .i64 ((l.map encSl).length : Int))), (11, .t (.int .i64 i)), (3, .t (.int .i64 ((l.take i).flatten.length : Int)))]) (fun _ => []) (fun i => l.length - i) 0 (by simp) ?_ ?_
  · exact at_of [] (sub_eq rfl rfl (sub_eq rfl rfl (sub_eq rfl rfl (sub_eq rfl rfl (sub_eq rfl rfl sub_nil))))) rfl
  rintro i hi
  by_cases hlt : i < l.length
  · have hr : l[i]? = some l[i] := List.getElem?_eq_getElem hlt
    generalize l[i] = r at hr
    have hs := flat_take_succ hr
    have hsl := congrArg List.length hs
    rw [List.length_append] at hsl
    have hle := flat_take_len (l := l) (i := i + 1)
    have hrm : (r.map encByte).length = r.length := List.length_map ..
    have hw : IntKind.i64.wrap (((l.take i).flatten.length : Int) + ((r.map encByte).length : Int)) = ((l.take (i + 1)).flatten.length : Int) := by
      rw [wrap64 (by omega) (by omega)]; omega
    repeat' (first | refine w_step progOk rfl rfl rfl ?_ | refine w_nil ?_ | refine w_seq ?_ | refine w_reg progOk rfl rfl ?_ | (refine w_condP rfl (ht := fun h => ?_) (hf := fun h => ?_) <;> try exact prn) | refine w_block ?_ | refine w_skip ?_ | refine w_index progOk rfl rfl rfl rfl rfl rfl rfl (map_get (by assumption)) rfl ?_ | fail)
    refine w_next (i + 1) (by omega) (by omega) [] (sub_eq rfl rfl (sub_eq rfl rfl (sub_eq rfl rfl (sub_eq rfl ?_ (sub_eq rfl (congrArg (fun z => AV.t (T.int .i64 z)) hw) sub_nil))))) rfl
    rw [wrap64 (by omega) (by omega)]; rfl
  · have hall : l.take i = l := List.take_of_length_le (by omega)
    repeat' (first | refine w_step progOk rfl rfl rfl ?_ | refine w_nil ?_ | refine w_seq ?_ | refine w_reg progOk rfl rfl ?_ | (refine w_condP rfl (ht := fun h => ?_) (hf := fun h => ?_) <;> try exact prn) | refine w_block ?_ | refine w_exit ?_ | refine w_callR progOk [] [(44, 48)] rfl rfl rfl rfl rfl (grow_ok (l.take i).flatten.length (by rw [hall]; exact h0) (by rw [hall]; exact hn)) rfl rfl rfl rfl rfl ?_ | fail)
    refine w_loop (ι := Nat) (fun j => j ≤ l.length) (fun j => [(25, .t (.slice .any 1 (l.map encSl))), (26, .t (.int .i64 ((l.map encSl).length : Int))), (27, .t (.int .i64 j)), (6, .row 48 1 0 (((l.take j).flatten).map encByte).length)]) (fun j => [(48, .grow 1 (((l.take j).flatten).map encByte))]) (fun j => l.length - j) 0 (by simp) ?_ ?_
    · exact at_of [] (sub_eq rfl rfl (sub_eq rfl rfl (sub_eq rfl rfl (sub_eq rfl rfl sub_nil)))) rfl
    rintro j hj
    by_cases hlt2 : j < l.length
    · have hr : l[j]? = some l[j] := List.getElem?_eq_getElem hlt2
      generalize l[j] = r at hr
      have hs := flat_take_succ hr
      have hsl := congrArg List.length hs
      rw [List.length_append] at hsl
      have hle := flat_take_len (l := l) (i := j + 1)
      repeat' (first | refine w_step progOk rfl rfl rfl ?_ | refine w_nil ?_ | refine w_seq ?_ | refine w_reg progOk rfl rfl ?_ | (refine w_condP rfl (ht := fun h => ?_) (hf := fun h => ?_) <;> try exact prn) | refine w_block ?_ | refine w_skip ?_ | refine w_index progOk rfl rfl rfl rfl rfl rfl rfl (map_get (by assumption)) rfl ?_ | refine w_appRow progOk rfl rfl rfl rfl rfl rfl rfl rfl rfl rfl rfl rfl rfl rfl (by simp only [List.length_append, List.length_map]; omega) ?_ | fail)
      refine w_next (j + 1) (by omega) (by omega) [] (sub_eq rfl rfl (sub_eq rfl rfl (sub_eq rfl ?_ (sub_eq rfl ?_ sub_nil)))) ?_
      · rw [wrap64 (by omega) (by omega)]; rfl
      · rw [hs, List.map_append]
      · rw [hs, List.map_append]; rfl
    · have hall2 : l.take j = l := List.take_of_length_le (by omega)
      repeat' (first | refine w_step progOk rfl rfl rfl ?_ | refine w_nil ?_ | refine w_seq ?_ | refine w_reg progOk rfl rfl ?_ | (refine w_condP rfl (ht := fun h => ?_) (hf := fun h => ?_) <;> try exact prn) | refine w_exit ?_ | refine w_ret ?_ | fail)
      refine w_fin rfl (Sub.of_eq ?_)
      rw [hall2]; exact frzA_row 48 1 _
end Go.Proofs.YtpdmaenhenfofaaGreatDoor

namespace Go.Proofs.YtpdmaenhenfofaaGreatDoor
open Go.Am
attribute [local irreducible] Decidable.decide
set_option maxRecDepth 100000
set_option maxHeartbeats 1000000
theorem fflag_ok (b : Bs) (y : Bool) (hb : b.length ≤ 1000000000) :
    Ct Tryz.prog 204 [.t (.slice .any 1 (b.map encByte)), .t (.bool y)] [] (.t (.slice .any 1 ((b ++ flagB y).map encByte))) [] := by
  have cc : ∀ f : Bs, f.length = 1 → Ct Tryz.prog 216 [.t (.slice .any 1 ([b, f].map encSl))] [] (.t (.slice .any 1 ((b ++ f).map encByte))) [] := fun f hf => by
    have := concat_ok [b, f] (by simp; omega) (by simp; omega) (by simp)
    simpa using this
  refine ct0 progOk Tryz.func204 rfl false rfl rfl ?_
  refine w_seq ?_
  refine w_reg progOk rfl rfl ?_
  refine w_step progOk rfl rfl rfl ?_
  refine w_nil ?_
  refine w_seq ?_
  refine w_reg progOk rfl rfl ?_
  refine w_bsRow progOk rfl rfl rfl rfl rfl rfl rfl rfl ?_
  cases y with
  | false =>
    repeat' (first | refine w_stepZ progOk rfl rfl rfl rfl rfl ?_ | refine w_step progOk rfl rfl rfl ?_ | refine w_nil ?_ | refine w_seq ?_ | refine w_reg progOk rfl rfl ?_ | (refine w_condP rfl (ht := fun h => ?_) (hf := fun h => ?_) <;> try exact prn) | refine w_skip ?_ | refine w_ret ?_ | refine w_callZ progOk rfl rfl rfl rfl (cc [0] rfl) rfl rfl rfl ⟨sub_slice, trivial⟩ ?_ | fail)
    exact w_fin rfl (Sub.refl _)
  | true =>
    repeat' (first | refine w_stepZ progOk rfl rfl rfl rfl rfl ?_ | refine w_step progOk rfl rfl rfl ?_ | refine w_nil ?_ | refine w_seq ?_ | refine w_reg progOk rfl rfl ?_ | (refine w_condP rfl (ht := fun h => ?_) (hf := fun h => ?_) <;> try exact prn) | refine w_ret ?_ | refine w_callZ progOk rfl rfl rfl rfl (cc [1] rfl) rfl rfl rfl ⟨sub_slice, trivial⟩ ?_ | fail)
    exact w_fin rfl (Sub.refl _)
end Go.Proofs.YtpdmaenhenfofaaGreatDoor

namespace Go.Proofs.YtpdmaenhenfofaaGreatDoor
open Go.Am
attribute [local irreducible] Decidable.decide
set_option maxRecDepth 100000
set_option maxHeartbeats 1000000
def idxOf {α : Type} (p : α → Bool) (l : List α) : Int := match l.findIdx? p with
  | some i => (i : Int)
  | none => -1
theorem idx_at {α : Type} {p : α → Bool} {l : List α} {i : Nat} {x : α} (h : l[i]? = some x) (ha : (l.take i).any p = false) (hp : p x = true) : idxOf p l = (i : Int) := by
  have hlt : i < l.length := (List.getElem?_eq_some_iff.1 h).1
  have : l.findIdx? p = some i := by
    rw [List.findIdx?_eq_some_iff_getElem]
    refine ⟨hlt, by obtain ⟨_, rfl⟩ := List.getElem?_eq_some_iff.1 h; exact hp, fun j hj => ?_⟩
    have := List.any_eq_false.1 ha (l[j]'(by omega)) (by rw [List.mem_take_iff_getElem]; exact ⟨j, by omega, rfl⟩)
    simpa using this
  simp [idxOf, this]
theorem idx_none {α : Type} {p : α → Bool} {l : List α} (h : l.any p = false) : idxOf p l = -1 := by
  have : l.findIdx? p = none := by
    rw [List.findIdx?_eq_none_iff]; intro x hx; have := List.any_eq_false.1 h x hx; simpa using this
  simp [idxOf, this]
theorem idx_any {α : Type} (p : α → Bool) (l : List α) : (0 ≤ idxOf p l) ↔ l.any p = true := by
  cases h : l.any p with
  | false => rw [idx_none h]; simp
  | true =>
    have : ∃ i, l.findIdx? p = some i := by
      cases hf : l.findIdx? p with
      | some i => exact ⟨i, rfl⟩
      | none => rw [List.findIdx?_eq_none_iff] at hf; rw [List.any_eq_true] at h; obtain ⟨x, hx, hp⟩ := h; have := hf x hx; simp [hp] at this
    obtain ⟨i, hi⟩ := this
    simp [idxOf, hi]
theorem indexRec_ok (fnum : Nat) (cap : List T) (p : Rec → Bool) (l : List Rec) (hl : l.length ≤ 1000000000) (hf : ∀ r, Ct Tryz.prog fnum (.agg (liftT (encRec r)) :: liftT cap) [] (.t (.bool (p r))) []) (hfr : freeL (liftT cap) = true) :
    Ct Tryz.prog 124 [.t (.slice .any 2 (l.map encRec)), .t (.func (.func fnum) [] cap)] [] (.t (.int .i64 (idxOf p l))) [] := by
  refine ct0 progOk Tryz.func124 rfl false rfl rfl ?_
  have hlm : (l.map encRec).length = l.length := List.length_map ..
  repeat' (first | refine w_step progOk rfl rfl rfl ?_ | refine w_nil ?_ | refine w_seq ?_ | refine w_reg progOk rfl rfl ?_ | refine w_block ?_ | fail)
  refine w_loop (ι := Nat) (fun i => i ≤ l.length ∧ (l.take i).any p = false) (fun i => [(0, .t (.slice .any 2 (l.map encRec))), (1, .t (.func (.func fnum) [] cap)), (7, .t (.int .i64 ((l.map encRec).length : Int))), (8, .t (.int .i64 i))]) (fun _ => []) (fun i => l.length - i) 0 (by simp) ?_ ?_
  · exact at_of [] (sub_eq rfl rfl (sub_eq rfl rfl (sub_eq rfl rfl (sub_eq rfl rfl sub_nil)))) rfl
  rintro i ⟨hi, hany⟩
  by_cases hlt : i < l.length
  · have hr : l[i]? = some l[i] := List.getElem?_eq_getElem hlt
    generalize l[i] = r at hr
    repeat' (first | refine w_step progOk rfl rfl rfl ?_ | refine w_nil ?_ | refine w_seq ?_ | refine w_reg progOk rfl rfl ?_ | (refine w_condP rfl (ht := fun h => ?_) (hf := fun h => ?_) <;> try exact prn) | refine w_block ?_ | refine w_skip ?_ | refine w_ret ?_ | refine w_index progOk rfl rfl rfl rfl rfl rfl rfl (map_get (by assumption)) rfl ?_ | refine w_call progOk rfl rfl rfl rfl rfl rfl hfr (hf r) rfl rfl ?_ | fail)
    · exact w_fin rfl (Sub.of_eq (by rw [idx_at hr hany h]))
    · refine w_next (i + 1) ⟨hlt, any_take_succ hr hany (by simpa using h)⟩ (by omega) [] (sub_eq rfl rfl (sub_eq rfl rfl (sub_eq rfl rfl (sub_eq rfl ?_ sub_nil)))) rfl
      rw [wrap64 (by omega) (by omega)]; rfl
  · repeat' (first | refine w_step progOk rfl rfl rfl ?_ | refine w_nil ?_ | refine w_seq ?_ | refine w_reg progOk rfl rfl ?_ | (refine w_condP rfl (ht := fun h => ?_) (hf := fun h => ?_) <;> try exact prn) | refine w_exit ?_ | refine w_ret ?_ | fail)
    exact w_fin rfl (Sub.of_eq (by rw [idx_none (any_take_all (by omega) hany)]))
theorem containsRec_ok (fnum : Nat) (cap : List T) (p : Rec → Bool) (l : List Rec) (hl : l.length ≤ 1000000000) (hf : ∀ r, Ct Tryz.prog fnum (.agg (liftT (encRec r)) :: liftT cap) [] (.t (.bool (p r))) []) (hfr : freeL (liftT cap) = true) :
    Ct Tryz.prog 68 [.t (.slice .any 2 (l.map encRec)), .t (.func (.func fnum) [] cap)] [] (.t (.bool (l.any p))) [] := by
  refine ct0 progOk Tryz.func68 rfl false rfl rfl ?_
  repeat' (first | refine w_step progOk rfl rfl rfl ?_ | refine w_nil ?_ | refine w_seq ?_ | refine w_reg progOk rfl rfl ?_ | refine w_ret ?_ | refine w_call progOk rfl rfl rfl rfl rfl rfl rfl (indexRec_ok fnum cap p l hl hf hfr) rfl rfl ?_ | fail)
  refine w_fin rfl (subB ?_)
  rw [← Bool.eq_iff_iff.2 ⟨fun h => (idx_any p l).1 (of_decide_eq_true h), fun h => decide_eq_true ((idx_any p l).2 h)⟩]
theorem indexRow_ok (fnum : Nat) (cap : List T) (p : Row → Bool) (l : List Row) (hl : l.length ≤ 1000000000) (hf : ∀ r, Ct Tryz.prog fnum (.agg (liftT (encRow r)) :: liftT cap) [] (.t (.bool (p r))) []) (hfr : freeL (liftT cap) = true) :
    Ct Tryz.prog 154 [.t (.slice .any 5 (l.map encRow)), .t (.func (.func fnum) [] cap)] [] (.t (.int .i64 (idxOf p l))) [] := by
  refine ct0 progOk Tryz.func154 rfl false rfl rfl ?_
  have hlm : (l.map encRow).length = l.length := List.length_map ..
  repeat' (first | refine w_step progOk rfl rfl rfl ?_ | refine w_nil ?_ | refine w_seq ?_ | refine w_reg progOk rfl rfl ?_ | refine w_block ?_ | fail)
  refine w_loop (ι := Nat) (fun i => i ≤ l.length ∧ (l.take i).any p = false) (fun i => [(0, .t (.slice .any 5 (l.map encRow))), (1, .t (.func (.func fnum) [] cap)), (7, .t (.int .i64 ((l.map encRow).length : Int))), (8, .t (.int .i64 i))]) (fun _ => []) (fun i => l.length - i) 0 (by simp) ?_ ?_
  · exact at_of [] (sub_eq rfl rfl (sub_eq rfl rfl (sub_eq rfl rfl (sub_eq rfl rfl sub_nil)))) rfl
  rintro i ⟨hi, hany⟩
  by_cases hlt : i < l.length
  · have hr : l[i]? = some l[i] := List.getElem?_eq_getElem hlt
    generalize l[i] = r at hr
    repeat' (first | refine w_step progOk rfl rfl rfl ?_ | refine w_nil ?_ | refine w_seq ?_ | refine w_reg progOk rfl rfl ?_ | (refine w_condP rfl (ht := fun h => ?_) (hf := fun h => ?_) <;> try exact prn) | refine w_block ?_ | refine w_skip ?_ | refine w_ret ?_ | refine w_index progOk rfl rfl rfl rfl rfl rfl rfl (map_get (by assumption)) rfl ?_ | refine w_call progOk rfl rfl rfl rfl rfl rfl hfr (hf r) rfl rfl ?_ | fail)
    · exact w_fin rfl (Sub.of_eq (by rw [idx_at hr hany h]))
    · refine w_next (i + 1) ⟨hlt, any_take_succ hr hany (by simpa using h)⟩ (by omega) [] (sub_eq rfl rfl (sub_eq rfl rfl (sub_eq rfl rfl (sub_eq rfl ?_ sub_nil)))) rfl
      rw [wrap64 (by omega) (by omega)]; rfl
  · repeat' (first | refine w_step progOk rfl rfl rfl ?_ | refine w_nil ?_ | refine w_seq ?_ | refine w_reg progOk rfl rfl ?_ | (refine w_condP rfl (ht := fun h => ?_) (hf := fun h => ?_) <;> try exact prn) | refine w_exit ?_ | refine w_ret ?_ | fail)
    exact w_fin rfl (Sub.of_eq (by rw [idx_none (any_take_all (by omega) hany)]))
theorem containsRow_ok (fnum : Nat) (cap : List T) (p : Row → Bool) (l : List Row) (hl : l.length ≤ 1000000000) (hf : ∀ r, Ct Tryz.prog fnum (.agg (liftT (encRow r)) :: liftT cap) [] (.t (.bool (p r))) []) (hfr : freeL (liftT cap) = true) :
    Ct Tryz.prog 93 [.t (.slice .any 5 (l.map encRow)), .t (.func (.func fnum) [] cap)] [] (.t (.bool (l.any p))) [] := by
  refine ct0 progOk Tryz.func93 rfl false rfl rfl ?_
  repeat' (first | refine w_step progOk rfl rfl rfl ?_ | refine w_nil ?_ | refine w_seq ?_ | refine w_reg progOk rfl rfl ?_ | refine w_ret ?_ | refine w_call progOk rfl rfl rfl rfl rfl rfl rfl (indexRow_ok fnum cap p l hl hf hfr) rfl rfl ?_ | fail)
  refine w_fin rfl (subB ?_)
  rw [← Bool.eq_iff_iff.2 ⟨fun h => (idx_any p l).1 (of_decide_eq_true h), fun h => decide_eq_true ((idx_any p l).2 h)⟩]
theorem indexOpn_ok (fnum : Nat) (cap : List T) (p : Opn → Bool) (l : List Opn) (hl : l.length ≤ 1000000000) (hf : ∀ r, Ct Tryz.prog fnum (.agg (liftT (encOpn r)) :: liftT cap) [] (.t (.bool (p r))) []) (hfr : freeL (liftT cap) = true) :
    Ct Tryz.prog 102 [.t (.slice .any 3 (l.map encOpn)), .t (.func (.func fnum) [] cap)] [] (.t (.int .i64 (idxOf p l))) [] := by
  refine ct0 progOk Tryz.func102 rfl false rfl rfl ?_
  have hlm : (l.map encOpn).length = l.length := List.length_map ..
  repeat' (first | refine w_step progOk rfl rfl rfl ?_ | refine w_nil ?_ | refine w_seq ?_ | refine w_reg progOk rfl rfl ?_ | refine w_block ?_ | fail)
  refine w_loop (ι := Nat) (fun i => i ≤ l.length ∧ (l.take i).any p = false) (fun i => [(0, .t (.slice .any 3 (l.map encOpn))), (1, .t (.func (.func fnum) [] cap)), (7, .t (.int .i64 ((l.map encOpn).length : Int))), (8, .t (.int .i64 i))]) (fun _ => []) (fun i => l.length - i) 0 (by simp) ?_ ?_
  · exact at_of [] (sub_eq rfl rfl (sub_eq rfl rfl (sub_eq rfl rfl (sub_eq rfl rfl sub_nil)))) rfl
  rintro i ⟨hi, hany⟩
  by_cases hlt : i < l.length
  · have hr : l[i]? = some l[i] := List.getElem?_eq_getElem hlt
    generalize l[i] = r at hr
    repeat' (first | refine w_step progOk rfl rfl rfl ?_ | refine w_nil ?_ | refine w_seq ?_ | refine w_reg progOk rfl rfl ?_ | (refine w_condP rfl (ht := fun h => ?_) (hf := fun h => ?_) <;> try exact prn) | refine w_block ?_ | refine w_skip ?_ | refine w_ret ?_ | refine w_index progOk rfl rfl rfl rfl rfl rfl rfl (map_get (by assumption)) rfl ?_ | refine w_call progOk rfl rfl rfl rfl rfl rfl hfr (hf r) rfl rfl ?_ | fail)
    · exact w_fin rfl (Sub.of_eq (by rw [idx_at hr hany h]))
    · refine w_next (i + 1) ⟨hlt, any_take_succ hr hany (by simpa using h)⟩ (by omega) [] (sub_eq rfl rfl (sub_eq rfl rfl (sub_eq rfl rfl (sub_eq rfl ?_ sub_nil)))) rfl
      rw [wrap64 (by omega) (by omega)]; rfl
  · repeat' (first | refine w_step progOk rfl rfl rfl ?_ | refine w_nil ?_ | refine w_seq ?_ | refine w_reg progOk rfl rfl ?_ | (refine w_condP rfl (ht := fun h => ?_) (hf := fun h => ?_) <;> try exact prn) | refine w_exit ?_ | refine w_ret ?_ | fail)
    exact w_fin rfl (Sub.of_eq (by rw [idx_none (any_take_all (by omega) hany)]))
theorem containsOpn_ok (fnum : Nat) (cap : List T) (p : Opn → Bool) (l : List Opn) (hl : l.length ≤ 1000000000) (hf : ∀ r, Ct Tryz.prog fnum (.agg (liftT (encOpn r)) :: liftT cap) [] (.t (.bool (p r))) []) (hfr : freeL (liftT cap) = true) :
    Ct Tryz.prog 197 [.t (.slice .any 3 (l.map encOpn)), .t (.func (.func fnum) [] cap)] [] (.t (.bool (l.any p))) [] := by
  refine ct0 progOk Tryz.func197 rfl false rfl rfl ?_
  repeat' (first | refine w_step progOk rfl rfl rfl ?_ | refine w_nil ?_ | refine w_seq ?_ | refine w_reg progOk rfl rfl ?_ | refine w_ret ?_ | refine w_call progOk rfl rfl rfl rfl rfl rfl rfl (indexOpn_ok fnum cap p l hl hf hfr) rfl rfl ?_ | fail)
  refine w_fin rfl (subB ?_)
  rw [← Bool.eq_iff_iff.2 ⟨fun h => (idx_any p l).1 (of_decide_eq_true h), fun h => decide_eq_true ((idx_any p l).2 h)⟩]
end Go.Proofs.YtpdmaenhenfofaaGreatDoor

namespace Go.Proofs.YtpdmaenhenfofaaGreatDoor
open Go.Am
attribute [local irreducible] Decidable.decide
set_option maxRecDepth 100000
set_option maxHeartbeats 1000000
theorem mayRec_ok (r : Rec) : Ct Tryz.prog 69 [.agg (liftT (encRec r))] [] (.t (.bool (!okRec r))) [] := by
  refine ct0 progOk Tryz.func69 rfl false rfl rfl ?_
  repeat' (first | refine w_step progOk rfl rfl rfl ?_ | refine w_nil ?_ | refine w_seq ?_ | refine w_reg progOk rfl rfl ?_ | (refine w_gFP rfl rfl rfl rfl rfl (ht := fun h => ?_) (hf := fun h => ?_) <;> try exact prn) | refine w_ret ?_ | fail)
  all_goals (refine w_fin rfl (subB ?_); unfold okRec)
  all_goals (rw [Bool.eq_iff_iff]; simp; omega)
theorem rmay_ok (b : Batch) (hl : b.recs.length ≤ 1000000000) : Ct Tryz.prog 37 [.agg (liftT (encBatch b))] [] (.t (.bool (mayBatch b))) [] := by
  refine ct0 progOk Tryz.func37 rfl false rfl rfl ?_
  have hlm : (b.recs.map encRec).length = b.recs.length := List.length_map ..
  have hw : (b.recs.length : Int) ≤ 4 → IntKind.i64.wrap (1048576 - ((b.recs.map encRec).length : Int)) = 1048576 - (b.recs.length : Int) := fun h => by rw [wrap64 (by omega) (by omega), hlm]
  repeat' (first | refine w_step progOk rfl rfl rfl ?_ | refine w_nil ?_ | refine w_seq ?_ | refine w_reg progOk rfl rfl ?_ | (refine w_gFP rfl rfl rfl rfl rfl (ht := fun h => ?_) (hf := fun h => ?_) <;> try exact prn) | (refine w_condP rfl (ht := fun h => ?_) (hf := fun h => ?_) <;> try exact prn) | refine w_block ?_ | refine w_skip ?_ | refine w_exit ?_ | refine w_ret ?_ | refine w_call progOk rfl rfl rfl rfl rfl rfl rfl (containsRec_ok 69 [] (fun r => !okRec r) b.recs hl mayRec_ok rfl) rfl rfl ?_ | fail)
  all_goals try (refine w_fin rfl (subB (may_no ?_)); unfold boundsB; omega)
  have hbd : boundsB b := by unfold boundsB; have := hw (by omega); omega
  refine w_fin rfl (subB ?_)
  simp only [mayBatch, hbd, decide_true, Bool.true_and]
  rw [List.all_eq_not_any_not]
theorem equalRec_ok (a b : List Rec) (ha : a.length ≤ 1000000000) : Ct Tryz.prog 211 [.t (.slice .any 2 (a.map encRec)), .t (.slice .any 2 (b.map encRec))] [] (.t (.bool (decide (a = b)))) [] := by
  refine ct0 progOk Tryz.func211 rfl false rfl rfl ?_
  have hla : (a.map encRec).length = a.length := List.length_map ..
  have hlb : (b.map encRec).length = b.length := List.length_map ..
  repeat' (first | refine w_step progOk rfl rfl rfl ?_ | refine w_nil ?_ | refine w_seq ?_ | refine w_reg progOk rfl rfl ?_ | (refine w_condP rfl (ht := fun h => ?_) (hf := fun h => ?_) <;> try exact prn) | refine w_block ?_ | refine w_skip ?_ | refine w_ret ?_ | fail)
  · exact w_fin rfl (subB (bF fun e => by subst e; exact h rfl))
  have hl : a.length = b.length := by omega
  refine w_loop (ι := Nat) (fun i => i ≤ a.length ∧ a.take i = b.take i) (fun i => [(0, .t (.slice .any 2 (a.map encRec))), (1, .t (.slice .any 2 (b.map encRec))), (12, .t (.int .i64 ((a.map encRec).length : Int))), (13, .t (.int .i64 i))]) (fun _ => []) (fun i => a.length - i) 0 (by simp) ?_ ?_
  · exact at_of [] (sub_eq rfl rfl (sub_eq rfl rfl (sub_eq rfl rfl (sub_eq rfl rfl sub_nil)))) rfl
  rintro i ⟨hi, htk⟩
  by_cases hlt : i < a.length
  · have hr : a[i]? = some a[i] := List.getElem?_eq_getElem hlt
    have hs : b[i]? = some (b[i]'(by omega)) := List.getElem?_eq_getElem _
    generalize a[i] = r at hr
    generalize b[i]'(by omega) = s at hs
    repeat' (first | refine w_step progOk rfl rfl rfl ?_ | refine w_nil ?_ | refine w_seq ?_ | refine w_reg progOk rfl rfl ?_ | (refine w_condP rfl (ht := fun h => ?_) (hf := fun h => ?_) <;> try exact prn) | refine w_block ?_ | refine w_skip ?_ | refine w_ret ?_ | refine w_regD (id := 6) (m := 8) progOk (by kernel_rfl) rfl rfl rfl rfl ?_ | refine s_step rfl rfl rfl rfl ?_ | refine s_index rfl rfl rfl rfl rfl rfl rfl (map_get (by assumption)) rfl ?_ | fail)
    · exact w_fin rfl (subB (bF (fun e => by subst e; rw [hr] at hs; cases hs; simp at h)))
    · have e : r = s := by cases r; cases s; simp at h; simp [h]
      refine w_next (i + 1) ⟨hlt, take_ext hr hs htk e⟩ (by omega) [] (sub_eq rfl rfl (sub_eq rfl rfl (sub_eq rfl rfl (sub_eq rfl ?_ sub_nil)))) rfl
      rw [wrap64 (by omega) (by omega)]; rfl
  · repeat' (first | refine w_step progOk rfl rfl rfl ?_ | refine w_nil ?_ | refine w_seq ?_ | refine w_reg progOk rfl rfl ?_ | (refine w_condP rfl (ht := fun h => ?_) (hf := fun h => ?_) <;> try exact prn) | refine w_exit ?_ | refine w_ret ?_ | fail)
    exact w_fin rfl (subB (bT (take_eq hl (by omega) htk)))
theorem equalSeen_ok (a b : List Seen) (ha : a.length ≤ 1000000000) : Ct Tryz.prog 212 [.t (.slice .any 3 (a.map encSeen)), .t (.slice .any 3 (b.map encSeen))] [] (.t (.bool (decide (a = b)))) [] := by
  refine ct0 progOk Tryz.func212 rfl false rfl rfl ?_
  have hla : (a.map encSeen).length = a.length := List.length_map ..
  have hlb : (b.map encSeen).length = b.length := List.length_map ..
  repeat' (first | refine w_step progOk rfl rfl rfl ?_ | refine w_nil ?_ | refine w_seq ?_ | refine w_reg progOk rfl rfl ?_ | (refine w_condP rfl (ht := fun h => ?_) (hf := fun h => ?_) <;> try exact prn) | refine w_block ?_ | refine w_skip ?_ | refine w_ret ?_ | fail)
  · exact w_fin rfl (subB (bF fun e => by subst e; exact h rfl))
  have hl : a.length = b.length := by omega
  refine w_loop (ι := Nat) (fun i => i ≤ a.length ∧ a.take i = b.take i) (fun i => [(0, .t (.slice .any 3 (a.map encSeen))), (1, .t (.slice .any 3 (b.map encSeen))), (12, .t (.int .i64 ((a.map encSeen).length : Int))), (13, .t (.int .i64 i))]) (fun _ => []) (fun i => a.length - i) 0 (by simp) ?_ ?_
  · exact at_of [] (sub_eq rfl rfl (sub_eq rfl rfl (sub_eq rfl rfl (sub_eq rfl rfl sub_nil)))) rfl
  rintro i ⟨hi, htk⟩
  by_cases hlt : i < a.length
  · have hr : a[i]? = some a[i] := List.getElem?_eq_getElem hlt
    have hs : b[i]? = some (b[i]'(by omega)) := List.getElem?_eq_getElem _
    generalize a[i] = r at hr
    generalize b[i]'(by omega) = s at hs
    repeat' (first | refine w_step progOk rfl rfl rfl ?_ | refine w_nil ?_ | refine w_seq ?_ | refine w_reg progOk rfl rfl ?_ | (refine w_condP rfl (ht := fun h => ?_) (hf := fun h => ?_) <;> try exact prn) | refine w_block ?_ | refine w_skip ?_ | refine w_ret ?_ | refine w_regD (id := 6) (m := 8) progOk (by kernel_rfl) rfl rfl rfl rfl ?_ | refine s_step rfl rfl rfl rfl ?_ | refine s_index rfl rfl rfl rfl rfl rfl rfl (map_get (by assumption)) rfl ?_ | fail)
    · exact w_fin rfl (subB (bF (fun e => by subst e; rw [hr] at hs; cases hs; simp at h)))
    · have e : r = s := by cases r; cases s; simp at h; simp [h]
      refine w_next (i + 1) ⟨hlt, take_ext hr hs htk e⟩ (by omega) [] (sub_eq rfl rfl (sub_eq rfl rfl (sub_eq rfl rfl (sub_eq rfl ?_ sub_nil)))) rfl
      rw [wrap64 (by omega) (by omega)]; rfl
  · repeat' (first | refine w_step progOk rfl rfl rfl ?_ | refine w_nil ?_ | refine w_seq ?_ | refine w_reg progOk rfl rfl ?_ | (refine w_condP rfl (ht := fun h => ?_) (hf := fun h => ?_) <;> try exact prn) | refine w_exit ?_ | refine w_ret ?_ | fail)
    exact w_fin rfl (subB (bT (take_eq hl (by omega) htk)))
theorem rsame_ok (a b : Batch) (ha : a.recs.length ≤ 1000000) : Ct Tryz.prog 200 [.agg (liftT (encBatch a)), .agg (liftT (encBatch b))] [] (.t (.bool (decide (a = b)))) [] := by
  refine ct0 progOk Tryz.func200 rfl false rfl rfl ?_
  repeat' (first | refine w_step progOk rfl rfl rfl ?_ | refine w_nil ?_ | refine w_seq ?_ | refine w_reg progOk rfl rfl ?_ | (refine w_gTP rfl rfl rfl rfl rfl (ht := fun h => ?_) (hf := fun h => ?_) <;> try exact prn) | refine w_ret ?_ | refine w_call progOk rfl rfl rfl rfl rfl rfl rfl (equalRec_ok a.recs b.recs (by omega)) rfl rfl ?_ | fail)
  · refine w_fin rfl (subB (bI ?_)); cases a; cases b; simp at *; simp [*]
  all_goals exact w_fin rfl (subB (bF (fun e => by subst e; simp at *)))
theorem esameProd_ok (a b : Prod) (ha : a.seen.length ≤ 1000000) : Ct Tryz.prog 201 [.agg (liftT (encProd a)), .agg (liftT (encProd b))] [] (.t (.bool (decide (a = b)))) [] := by
  refine ct0 progOk Tryz.func201 rfl false rfl rfl ?_
  repeat' (first | refine w_step progOk rfl rfl rfl ?_ | refine w_nil ?_ | refine w_seq ?_ | refine w_reg progOk rfl rfl ?_ | (refine w_gTP rfl rfl rfl rfl rfl (ht := fun h => ?_) (hf := fun h => ?_) <;> try exact prn) | refine w_ret ?_ | refine w_call progOk rfl rfl rfl rfl rfl rfl rfl (equalSeen_ok a.seen b.seen (by omega)) rfl rfl ?_ | fail)
  · refine w_fin rfl (subB (bI ?_)); cases a; cases b; simp at *; simp [*]
  all_goals exact w_fin rfl (subB (bF (fun e => by subst e; simp at *)))
theorem esame_ok (a b : Entry) (ha : a.b.recs.length ≤ 1000000) (hp : a.prod.seen.length ≤ 1000000) : Ct Tryz.prog 166 [.agg (liftT (encEntry a)), .agg (liftT (encEntry b))] [] (.t (.bool (decide (a = b)))) [] := by
  refine ct0 progOk Tryz.func166 rfl false rfl rfl ?_
  repeat' (first | refine w_step progOk rfl rfl rfl ?_ | refine w_nil ?_ | refine w_seq ?_ | refine w_reg progOk rfl rfl ?_ | (refine w_gTP rfl rfl rfl rfl rfl (ht := fun h => ?_) (hf := fun h => ?_) <;> try exact prn) | refine w_ret ?_ | refine w_call progOk rfl rfl rfl rfl rfl rfl rfl (rsame_ok a.b b.b ha) rfl rfl ?_ | refine w_call progOk rfl rfl rfl rfl rfl rfl rfl (esameProd_ok a.prod b.prod hp) rfl rfl ?_ | fail)
  · refine w_fin rfl (subB (bI ?_))
    rcases a with ⟨k1, b1, y1, n1, o1, ⟨ro1, rp1, rs1, rk1, rv1⟩, p1⟩
    rcases b with ⟨k2, b2, y2, n2, o2, ⟨ro2, rp2, rs2, rk2, rv2⟩, p2⟩
    simp at *; simp [*]
  all_goals exact w_fin rfl (subB (bF (fun e => by subst e; simp at *)))
theorem eseq_ok (n : Int) : Ct Tryz.prog 163 [.t (.int .i64 n)] [] (.t (.bool (decide (0 ≤ n ∧ n ≤ 1048576)))) [] := by
  refine ct0 progOk Tryz.func163 rfl false rfl rfl ?_
  repeat' (first | refine w_step progOk rfl rfl rfl ?_ | refine w_nil ?_ | refine w_seq ?_ | refine w_reg progOk rfl rfl ?_ | (refine w_gTP rfl rfl rfl rfl rfl (ht := fun h => ?_) (hf := fun h => ?_) <;> try exact prn) | refine w_ret ?_ | fail)
  all_goals (refine w_fin rfl (subB ?_); (first | exact bI (by omega) | exact bT (by omega) | exact bF (by omega)))
theorem eproducer_ok (a b : Int) : Ct Tryz.prog 164 [.t (.int .i64 a), .t (.int .i64 b)] [] (.t (.bool (decide (1 ≤ a ∧ a ≤ 8 ∧ 0 ≤ b ∧ b ≤ 100)))) [] := by
  refine ct0 progOk Tryz.func164 rfl false rfl rfl ?_
  repeat' (first | refine w_step progOk rfl rfl rfl ?_ | refine w_nil ?_ | refine w_seq ?_ | refine w_reg progOk rfl rfl ?_ | (refine w_gTP rfl rfl rfl rfl rfl (ht := fun h => ?_) (hf := fun h => ?_) <;> try exact prn) | refine w_ret ?_ | fail)
  all_goals (refine w_fin rfl (subB ?_); (first | exact bI (by omega) | exact bT (by omega) | exact bF (by omega)))
theorem erow_ok (r : Row) : Ct Tryz.prog 165 [.agg (liftT (encRow r))] [] (.t (.bool (decide (r.offset = 0) && mayRow r))) [] := by
  refine ct0 progOk Tryz.func165 rfl false rfl rfl ?_
  repeat' (first | refine w_step progOk rfl rfl rfl ?_ | refine w_nil ?_ | refine w_seq ?_ | refine w_reg progOk rfl rfl ?_ | (refine w_gTP rfl rfl rfl rfl rfl (ht := fun h => ?_) (hf := fun h => ?_) <;> try exact prn) | refine w_ret ?_ | refine w_call progOk rfl rfl rfl rfl rfl rfl rfl (eproducer_ok _ _) rfl rfl ?_ | fail)
  all_goals (refine w_fin rfl (subB ?_); unfold mayRow; rw [Bool.eq_iff_iff]; simp; omega)
end Go.Proofs.YtpdmaenhenfofaaGreatDoor
