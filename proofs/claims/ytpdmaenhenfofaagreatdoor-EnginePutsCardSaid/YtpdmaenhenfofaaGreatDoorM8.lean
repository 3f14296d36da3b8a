/- The general texts of the abstract machine, joined: Sp, Ra. -/
import Derived.Test.YtpdmaenhenfofaaGreatDoorCf
import Derived.Test.YtpdmaenhenfofaaGreatDoorDt
set_option linter.unusedVariables false
set_option linter.unusedSimpArgs false

/- Sp -/
namespace Go.Proofs.YtpdmaenhenfofaaGreatDoor
open Go.Am
attribute [local irreducible] Decidable.decide
set_option maxRecDepth 100000
set_option maxHeartbeats 1000000

/- the bytes of a number -/
def vint (n : Nat) : Bs := if h : n < 128 then [UInt8.ofNat n] else UInt8.ofNat (128 + n % 128) :: vint (n / 128)
termination_by n
decreasing_by omega

theorem vint_lo {n : Nat} (h : n < 128) : vint n = [UInt8.ofNat n] := by rw [vint, dif_pos h]
theorem vint_hi {n : Nat} (h : ¬ n < 128) : vint n = UInt8.ofNat (128 + n % 128) :: vint (n / 128) := by rw [vint, dif_neg h]
theorem vint_len : ∀ (k n : Nat), n < 128 ^ (k + 1) → (vint n).length ≤ k + 1
  | 0, n, h => by rw [vint_lo (by simpa using h)]; simp
  | k + 1, n, h => by
    by_cases h1 : n < 128
    · rw [vint_lo h1]; simp
    · rw [vint_hi h1, List.length_cons]
      have := vint_len k (n / 128) (by rw [Nat.div_lt_iff_lt_mul (by decide)]; rw [Nat.pow_succ] at h; exact h)
      omega

theorem vint_len6 {n : Nat} (h : n ≤ 1099511627776) : (vint n).length ≤ 6 := vint_len 5 n (Nat.lt_of_le_of_lt h (by decide))

theorem u8_enc {n : Int} {m : Nat} (h : n = m) (hm : m < 256) : T.int .u8 (IntKind.u8.wrap n) = T.int .u8 ((UInt8.ofNat m).toNat : Int) := by
  subst h
  have h1 : (UInt8.ofNat m).toNat = m := by simp [UInt8.toNat_ofNat']; omega
  rw [h1]; congr 1
  simp [IntKind.wrap, IntKind.bits, IntKind.signed]; omega

end Go.Proofs.YtpdmaenhenfofaaGreatDoor

/- Ra -/
namespace Go.Proofs.YtpdmaenhenfofaaGreatDoor
open Go.Am
attribute [local irreducible] Decidable.decide
set_option maxRecDepth 100000
set_option maxHeartbeats 1000000

theorem put_ok (b : Bs) (n : Nat) (hn : n ≤ 1099511627776) (hb : b.length ≤ 1000000000) :
    Ct Tryz.prog 123 [.t (.slice .any 1 (b.map encByte)), .t (.int .i64 n)] [] (.tuple [.row 30 1 0 (b ++ vint n).length, .t (.int .i64 0)]) [(30, .grow 1 ((b ++ vint n).map encByte))] := by
  refine ct1 progOk Tryz.func123 rfl rfl ?_
  repeat' (first | refine w_stepZ progOk rfl rfl rfl rfl rfl ?_ | refine w_step progOk rfl rfl rfl ?_ | refine w_nil ?_ | refine w_seq ?_ | refine w_reg progOk rfl rfl ?_ | (refine w_gTP rfl rfl rfl rfl rfl (ht := fun h => ?_) (hf := fun h => ?_) <;> try exact prn) | (refine w_gFP rfl rfl rfl rfl rfl (ht := fun h => ?_) (hf := fun h => ?_) <;> try exact prn) | refine w_guardU rfl rfl rfl rfl rfl ?_ | (refine w_condP rfl (ht := fun h => ?_) (hf := fun h => ?_) <;> try exact prn) | refine w_block ?_ | refine w_skip ?_ | refine w_exit ?_ | refine w_ret ?_ | refine w_index progOk rfl rfl rfl rfl rfl rfl rfl (map_get (by assumption)) rfl ?_ | refine w_indexE progOk rfl rfl rfl rfl rfl rfl rfl (by assumption) (map_get (by assumption)) rfl ?_ | refine w_appNil progOk rfl rfl rfl rfl rfl rfl rfl rfl rfl rfl rfl rfl rfl (by simp [chunk]; omega) ?_ | refine w_appRow progOk rfl rfl rfl rfl rfl rfl rfl rfl rfl rfl rfl rfl rfl rfl (by simp [chunk]; omega) ?_ | fail)
  · refine w_loop (ι := Nat × Bs) (fun p => p.1 ≤ 1099511627776 ∧ p.2 ++ vint p.1 = b ++ vint n) (fun p => [(1, .t (.int .i64 p.1)), (6, .row 30 1 0 (p.2.map encByte).length)]) (fun p => [(30, .grow 1 (p.2.map encByte))]) (fun p => p.1) (n, b) ⟨hn, rfl⟩ ?_ ?_
    · exact at_of [] (sub_eq rfl rfl (sub_eq rfl rfl sub_nil)) rfl
    rintro ⟨m, out⟩ ⟨hm, he⟩
    have hl := vint_len6 hn
    have hol : out.length ≤ b.length + 6 := by have := congrArg List.length he; simp at this; omega
    repeat' (first | refine w_stepZ progOk rfl rfl rfl rfl rfl ?_ | refine w_step progOk rfl rfl rfl ?_ | refine w_nil ?_ | refine w_seq ?_ | refine w_reg progOk rfl rfl ?_ | (refine w_gTP rfl rfl rfl rfl rfl (ht := fun h => ?_) (hf := fun h => ?_) <;> try exact prn) | (refine w_gFP rfl rfl rfl rfl rfl (ht := fun h => ?_) (hf := fun h => ?_) <;> try exact prn) | refine w_guardU rfl rfl rfl rfl rfl ?_ | (refine w_condP rfl (ht := fun h => ?_) (hf := fun h => ?_) <;> try exact prn) | refine w_block ?_ | refine w_skip ?_ | refine w_exit ?_ | refine w_ret ?_ | refine w_index progOk rfl rfl rfl rfl rfl rfl rfl (map_get (by assumption)) rfl ?_ | refine w_indexE progOk rfl rfl rfl rfl rfl rfl rfl (by assumption) (map_get (by assumption)) rfl ?_ | refine w_appNil progOk rfl rfl rfl rfl rfl rfl rfl rfl rfl rfl rfl rfl rfl (by simp [chunk]; omega) ?_ | refine w_appRow progOk rfl rfl rfl rfl rfl rfl rfl rfl rfl rfl rfl rfl rfl rfl (by simp [chunk]; omega) ?_ | fail)
    · refine w_next (m / 128, out ++ [UInt8.ofNat (128 + m % 128)]) ⟨by omega, ?_⟩ (by simp; omega) [] (sub_eq rfl ?_ (sub_eq rfl (by simp [chunk]) sub_nil)) ?_
      · rw [← he, vint_hi (n := m) (by omega)]; simp
      · rw [wrap64 (by simp; omega) (by simp; omega)]; simp
      · have e1 := u8_enc (n := IntKind.i64.wrap (128 + (m : Int).tmod 128)) (m := 128 + m % 128) (by have : (m : Int).tmod 128 = ((m % 128 : Nat) : Int) := rfl; rw [wrap64 (by omega) (by omega)]; omega) (by omega)
        simp [chunk, ti5, encByte, dropS, killS, e1]
    · have e2 : out ++ [UInt8.ofNat m] = b ++ vint n := by rw [← he, vint_lo (by omega)]
      have e1 := u8_enc (n := (m : Int)) (m := m) rfl (by omega)
      refine w_fin1 [] rfl rfl ?_ (Sub.of_eq ?_)
      · rw [← e2]; simp [chunk, ti5, encByte, dropS, killS, e1]
      · rw [← e2]; simp [chunk]


theorem put_okZ (b : Bs) (n : Int) (h0 : 0 ≤ n) (hn : n ≤ 1099511627776) (hb : b.length ≤ 1000000000) :
    Ct Tryz.prog 123 [.t (.slice .any 1 (b.map encByte)), .t (.int .i64 n)] [] (.tuple [.row 30 1 0 (b ++ vint n.toNat).length, .t (.int .i64 0)]) [(30, .grow 1 ((b ++ vint n.toNat).map encByte))] := by
  obtain ⟨m, rfl⟩ := Int.eq_ofNat_of_zero_le h0
  exact put_ok b m (by omega) hb

theorem put_okF (b : Bs) (n : Int) (h0 : 0 ≤ n) (hn : n ≤ 1099511627776) (hb : b.length ≤ 1000000000) :
    Ct Tryz.prog 123 [.t (.slice .any 1 (b.map encByte)), .t (.int .i64 n)] [] (.tuple [.t (.slice .any 1 ((b ++ vint n.toNat).map encByte)), .t (.int .i64 0)]) [] := by
  have h := put_okZ b n h0 hn hb
  rw [← List.length_map (f := encByte)] at h
  exact h.freeze2

theorem number_ok (b : Bs) (n : Int) (h0 : 0 ≤ n) (hn : n ≤ 1099511627776) (hb : b.length ≤ 1000000000) :
    Ct Tryz.prog 122 [.t (.slice .any 1 (b.map encByte)), .t (.int .i64 n)] [] (.tuple [.t (.slice .any 1 ((b ++ vint n.toNat).map encByte)), .t (.int .i64 0)]) [] := by
  refine ct0 progOk Tryz.func122 rfl false rfl rfl ?_
  repeat' (first | refine w_stepZ progOk rfl rfl rfl rfl rfl ?_ | refine w_step progOk rfl rfl rfl ?_ | refine w_nil ?_ | refine w_seq ?_ | refine w_reg progOk rfl rfl ?_ | (refine w_gTP rfl rfl rfl rfl rfl (ht := fun h => ?_) (hf := fun h => ?_) <;> try exact prn) | (refine w_gFP rfl rfl rfl rfl rfl (ht := fun h => ?_) (hf := fun h => ?_) <;> try exact prn) | refine w_guardU rfl rfl rfl rfl rfl ?_ | (refine w_condP rfl (ht := fun h => ?_) (hf := fun h => ?_) <;> try exact prn) | refine w_block ?_ | refine w_skip ?_ | refine w_exit ?_ | refine w_ret ?_ | refine w_index progOk rfl rfl rfl rfl rfl rfl rfl (map_get (by assumption)) rfl ?_ | refine w_indexE progOk rfl rfl rfl rfl rfl rfl rfl (by assumption) (map_get (by assumption)) rfl ?_ | refine w_appNil progOk rfl rfl rfl rfl rfl rfl rfl rfl rfl rfl rfl rfl rfl (by simp [chunk]; omega) ?_ | refine w_appRow progOk rfl rfl rfl rfl rfl rfl rfl rfl rfl rfl rfl rfl rfl rfl (by simp [chunk]; omega) ?_ | refine w_call progOk rfl rfl rfl rfl rfl rfl rfl (put_okF _ _ h0 hn hb) rfl rfl ?_ | fail)
  exact w_fin rfl (Sub.refl _)

theorem flag_ok (b : Bs) (y : Bool) (hb : b.length ≤ 1000000000) :
    Ct Tryz.prog 66 [.t (.slice .any 1 (b.map encByte)), .t (.bool y)] [] (.t (.slice .any 1 ((b ++ [if y then 1 else 0]).map encByte))) [] := by
  refine ct0 progOk Tryz.func66 rfl false rfl rfl ?_
  repeat' (first | refine w_stepZ progOk rfl rfl rfl rfl rfl ?_ | refine w_step progOk rfl rfl rfl ?_ | refine w_nil ?_ | refine w_seq ?_ | refine w_reg progOk rfl rfl ?_ | (refine w_gTP rfl rfl rfl rfl rfl (ht := fun h => ?_) (hf := fun h => ?_) <;> try exact prn) | (refine w_gFP rfl rfl rfl rfl rfl (ht := fun h => ?_) (hf := fun h => ?_) <;> try exact prn) | refine w_guardU rfl rfl rfl rfl rfl ?_ | (refine w_condP rfl (ht := fun h => ?_) (hf := fun h => ?_) <;> try exact prn) | refine w_block ?_ | refine w_skip ?_ | refine w_exit ?_ | refine w_ret ?_ | refine w_index progOk rfl rfl rfl rfl rfl rfl rfl (map_get (by assumption)) rfl ?_ | refine w_indexE progOk rfl rfl rfl rfl rfl rfl rfl (by assumption) (map_get (by assumption)) rfl ?_ | refine w_appNil progOk rfl rfl rfl rfl rfl rfl rfl rfl rfl rfl rfl rfl rfl (by simp [chunk]; omega) ?_ | refine w_appRow progOk rfl rfl rfl rfl rfl rfl rfl rfl rfl rfl rfl rfl rfl rfl (by simp [chunk]; omega) ?_ | fail)
  · refine w_fin rfl (Sub.of_eq ?_); simp [frzA, h, chunk, ti5, encByte]; exact List.take_of_length_le (by simp)
  · refine w_fin rfl (Sub.of_eq ?_); simp [frzA, h, chunk, ti5, encByte]; exact List.take_of_length_le (by simp)

def greatR (r : Rec) : Bool := decide (200 < (r.key.length : Int)) || decide (200 < (r.value.length : Int))
def greatE (x : Entry) : Bool := decide (40 < (x.b.recs.length : Int)) || decide (200 < (x.row.key.length : Int)) || decide (200 < (x.row.value.length : Int)) || decide (40 < (x.prod.seen.length : Int)) || x.b.recs.any greatR

theorem great_ok (x : Entry) : Ct Tryz.prog 29 [.agg (liftT (encEntry x))] [] (.t (.bool (greatE x))) [] := by
  refine ct0 progOk Tryz.func29 rfl false rfl rfl ?_
  repeat' (first | refine w_stepZ progOk rfl rfl rfl rfl rfl ?_ | refine w_step progOk rfl rfl rfl ?_ | refine w_nil ?_ | refine w_seq ?_ | refine w_reg progOk rfl rfl ?_ | (refine w_gTP rfl rfl rfl rfl rfl (ht := fun h => ?_) (hf := fun h => ?_) <;> try exact prn) | (refine w_gFP rfl rfl rfl rfl rfl (ht := fun h => ?_) (hf := fun h => ?_) <;> try exact prn) | refine w_guardU rfl rfl rfl rfl rfl ?_ | (refine w_condP rfl (ht := fun h => ?_) (hf := fun h => ?_) <;> try exact prn) | refine w_block ?_ | refine w_skip ?_ | refine w_exit ?_ | refine w_ret ?_ | refine w_index progOk rfl rfl rfl rfl rfl rfl rfl (map_get (by assumption)) rfl ?_ | refine w_indexE progOk rfl rfl rfl rfl rfl rfl rfl (by assumption) (map_get (by assumption)) rfl ?_ | refine w_appNil progOk rfl rfl rfl rfl rfl rfl rfl rfl rfl rfl rfl rfl rfl (by simp [chunk]; omega) ?_ | refine w_appRow progOk rfl rfl rfl rfl rfl rfl rfl rfl rfl rfl rfl rfl rfl rfl (by simp [chunk]; omega) ?_ | fail)
  all_goals try (refine w_fin rfl (Sub.of_eq ?_); simp_all [greatE]; done)
  refine w_loop (ι := Nat) (fun i => i ≤ x.b.recs.length ∧ (x.b.recs.take i).any greatR = false) (fun i => [(1, .ref 2 0), (3, .t (.int .i64 i))]) (fun _ => [(2, .cells (liftT (encEntry x)))]) (fun i => x.b.recs.length - i) 0 (by simp) ?_ ?_
  · exact at_of [] (sub_eq rfl rfl (sub_eq rfl rfl sub_nil)) rfl
  rintro i ⟨hi, hany⟩
  simp only [List.length_map] at *
  by_cases hlt : i < x.b.recs.length
  · have hr : x.b.recs[i]? = some x.b.recs[i] := List.getElem?_eq_getElem hlt
    generalize x.b.recs[i] = r at hr
    repeat' (first | refine w_stepZ progOk rfl rfl rfl rfl rfl ?_ | refine w_step progOk rfl rfl rfl ?_ | refine w_nil ?_ | refine w_seq ?_ | refine w_reg progOk rfl rfl ?_ | (refine w_gTP rfl rfl rfl rfl rfl (ht := fun h => ?_) (hf := fun h => ?_) <;> try exact prn) | (refine w_gFP rfl rfl rfl rfl rfl (ht := fun h => ?_) (hf := fun h => ?_) <;> try exact prn) | refine w_guardU rfl rfl rfl rfl rfl ?_ | (refine w_condP rfl (ht := fun h => ?_) (hf := fun h => ?_) <;> try exact prn) | refine w_block ?_ | refine w_skip ?_ | refine w_exit ?_ | refine w_ret ?_ | refine w_index progOk rfl rfl rfl rfl rfl rfl rfl (map_get (by assumption)) rfl ?_ | refine w_indexE progOk rfl rfl rfl rfl rfl rfl rfl (by assumption) (map_get (by assumption)) rfl ?_ | refine w_appNil progOk rfl rfl rfl rfl rfl rfl rfl rfl rfl rfl rfl rfl rfl (by simp [chunk]; omega) ?_ | refine w_appRow progOk rfl rfl rfl rfl rfl rfl rfl rfl rfl rfl rfl rfl rfl rfl (by simp [chunk]; omega) ?_ | fail)
    · refine w_fin rfl (Sub.of_eq ?_); simp [greatE, any_of_get hr (p := greatR) (by simp [greatR]; omega)]
    · refine w_next (i + 1) ⟨hlt, any_take_succ hr hany (by simp [greatR]; omega)⟩ (by omega) [] (sub_eq rfl rfl (sub_eq rfl ?_ sub_nil)) rfl
      rw [wrap64 (by omega) (by omega)]; rfl
    · refine w_fin rfl (Sub.of_eq ?_); simp [greatE, any_of_get hr (p := greatR) (by simp [greatR]; omega)]
  · repeat' (first | refine w_stepZ progOk rfl rfl rfl rfl rfl ?_ | refine w_step progOk rfl rfl rfl ?_ | refine w_nil ?_ | refine w_seq ?_ | refine w_reg progOk rfl rfl ?_ | (refine w_gTP rfl rfl rfl rfl rfl (ht := fun h => ?_) (hf := fun h => ?_) <;> try exact prn) | (refine w_gFP rfl rfl rfl rfl rfl (ht := fun h => ?_) (hf := fun h => ?_) <;> try exact prn) | refine w_guardU rfl rfl rfl rfl rfl ?_ | (refine w_condP rfl (ht := fun h => ?_) (hf := fun h => ?_) <;> try exact prn) | refine w_block ?_ | refine w_skip ?_ | refine w_exit ?_ | refine w_ret ?_ | refine w_index progOk rfl rfl rfl rfl rfl rfl rfl (map_get (by assumption)) rfl ?_ | refine w_indexE progOk rfl rfl rfl rfl rfl rfl rfl (by assumption) (map_get (by assumption)) rfl ?_ | refine w_appNil progOk rfl rfl rfl rfl rfl rfl rfl rfl rfl rfl rfl rfl rfl (by simp [chunk]; omega) ?_ | refine w_appRow progOk rfl rfl rfl rfl rfl rfl rfl rfl rfl rfl rfl rfl rfl rfl (by simp [chunk]; omega) ?_ | fail)
    · refine w_fin rfl (Sub.of_eq ?_); simp_all [greatE, any_take_all (by omega) hany]

end Go.Proofs.YtpdmaenhenfofaaGreatDoor
