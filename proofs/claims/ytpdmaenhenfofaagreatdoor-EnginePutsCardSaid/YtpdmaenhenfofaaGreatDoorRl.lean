/- Contracts of references: what is put; the same operations. -/
import Derived.Test.YtpdmaenhenfofaaGreatDoorRk
set_option linter.unusedVariables false
set_option linter.unusedSimpArgs false
namespace Go.Proofs.YtpdmaenhenfofaaGreatDoor
open Go.Am
attribute [local irreducible] Decidable.decide
set_option maxRecDepth 100000
set_option maxHeartbeats 1000000

theorem entryB_len {x : Entry} (hm : mayE x = true) : (entryB x).length ≤ 1024 := by
  have hma := (mayE_alt hm).2
  have v1 : ∀ n : Int, 0 ≤ n → n ≤ 1099511627776 → (vint n.toNat).length ≤ 6 := fun n h0 h1 => vint_len6 (by omega)
  unfold entryB
  rw [List.length_cons]
  split at hma
  · rename_i hk; rw [if_pos hk]; have := batchB_len hma; omega
  rename_i hk0; rw [if_neg hk0]
  split at hma
  · rename_i hk; rw [if_pos hk]
    have a1 := v1 x.b.pid (by omega) (by omega)
    have a2 := v1 x.b.epoch (by omega) (by omega)
    simp [nums, flagB]; omega
  rename_i hk1; rw [if_neg hk1]
  split at hma
  · rename_i hk; rw [if_pos hk]
    have a1 := v1 x.offset (by omega) (by omega)
    simp [nums]; omega
  rename_i hk2; rw [if_neg hk2]
  split at hma
  · rename_i hk; rw [if_pos hk]
    have := batchB_len hma.1
    have a1 := v1 x.next (by omega) (by omega)
    split <;> simp [nums, flagB] <;> omega
  rename_i hk3; rw [if_neg hk3]
  split at hma
  · rename_i hk; rw [if_pos hk]
    have a1 := v1 x.b.pid (by omega) (by omega)
    have a2 := v1 x.b.epoch (by omega) (by omega)
    have a3 := v1 x.next (by omega) (by omega)
    simp [nums]; omega
  rename_i hk4; rw [if_neg hk4]
  split at hma
  · rename_i hk; rw [if_pos hk]
    simp only [mayRow, decide_eq_true_eq] at hma
    have a1 := v1 x.row.pid (by omega) (by omega)
    have a2 := v1 x.row.seq (by omega) (by omega)
    have a3 := textB_len (s := x.row.key) (by omega)
    have a4 := textB_len (s := x.row.value) (by omega)
    simp [nums]; omega
  rename_i hk5; rw [if_neg hk5]
  obtain ⟨_, hma⟩ := hma
  simp only [knownP, Bool.and_eq_true, decide_eq_true_eq] at hma
  obtain ⟨hbd, hch⟩ := hma
  unfold boundsP at hbd
  have hs := seens_len (chain_seen (by omega) (by omega) hch)
  have a1 := v1 x.prod.pid (by omega) (by omega)
  have a2 := v1 x.prod.epoch (by omega) (by omega)
  have a3 := v1 x.prod.next (by omega) (by omega)
  have a4 := v1 x.prod.seen.length (by omega) (by omega)
  rw [List.length_append]
  have : (nums [x.prod.pid, x.prod.epoch, x.prod.next, (x.prod.seen.length : Int)]).length ≤ 24 := by simp [nums] at *; omega
  omega

def wrOf (name : Bs) (x : Entry) : Wr := ⟨0, name, frameB (entryB x), 0⟩
def putW (name : Bs) (l : List Entry) : List Wr := l.map (wrOf name) ++ [⟨1, name, [], 0⟩]
def putR (name : Bs) (l : List Entry) : List Wr := if l ≠ [] ∧ l.all mayE = true then putW name l else []
def putE (l : List Entry) : Int := if l ≠ [] ∧ l.all mayE = true then 0 else 2

def smallE (x : Entry) : Prop := x.b.recs.length ≤ 1000000 ∧ x.prod.seen.length ≤ 1000000

theorem put17_ok (name : Bs) (l : List Entry) (hl : l.length ≤ 1000000) (hsm : ∀ x ∈ l, smallE x) : Ct Tryz.prog 12 [.t (.str name), .t (.slice .any 18 (l.map encEntry))] [] (.tuple [.t (.slice .any 4 ((putR name l).map encWr)), .t (.int .i64 (putE l))]) [] := by
  refine ct0 progOk Tryz.func12 rfl false rfl rfl ?_
  have hlm : (l.map encEntry).length = l.length := List.length_map ..
  repeat' (first | refine w_stepZ progOk rfl rfl rfl rfl rfl ?_ | refine w_step progOk rfl rfl rfl ?_ | refine w_nil ?_ | refine w_seq ?_ | refine w_reg progOk rfl rfl ?_ | (refine w_gTP rfl rfl rfl rfl rfl (ht := fun h => ?_) (hf := fun h => ?_) <;> try exact prn) | (refine w_gFP rfl rfl rfl rfl rfl (ht := fun h => ?_) (hf := fun h => ?_) <;> try exact prn) | refine w_guardU rfl rfl rfl rfl rfl ?_ | (refine w_condP rfl (ht := fun h => ?_) (hf := fun h => ?_) <;> try exact prn) | refine w_block ?_ | refine w_skip ?_ | refine w_exit ?_ | refine w_ret ?_ | refine w_index progOk rfl rfl rfl rfl rfl rfl rfl (map_get (by assumption)) rfl ?_ | refine w_indexE progOk rfl rfl rfl rfl rfl rfl rfl (by assumption) (map_get (by assumption)) rfl ?_ | refine w_appNil progOk rfl rfl rfl rfl rfl rfl rfl rfl rfl rfl rfl rfl rfl (by simp [chunk]; omega) ?_ | refine w_appRow progOk rfl rfl rfl rfl rfl rfl rfl rfl rfl rfl rfl rfl rfl rfl (by simp [chunk]; omega) ?_ | refine s_step rfl rfl rfl rfl ?_ | refine s_nil ?_ | (refine s_gTP rfl rfl rfl rfl rfl (ht := fun h => ?_) (hf := fun h => ?_) <;> try exact prn) | (refine s_gFP rfl rfl rfl rfl rfl (ht := fun h => ?_) (hf := fun h => ?_) <;> try exact prn) | refine s_guardU rfl rfl rfl rfl rfl ?_ | refine s_index rfl rfl rfl rfl rfl rfl rfl (map_get (by assumption)) rfl ?_ | fail)
  · have hn : l = [] := List.eq_nil_of_length_eq_zero (by omega)
    subst hn
    refine w_fin rfl ?_
    simp only [putR, putE]
    exact sub_tuple ⟨sub_slNil, Sub.refl _, trivial⟩
  have hne : l ≠ [] := fun e => by subst e; simp at h
  refine Tr.nilRow 6 42 4 rfl rfl ?_
  refine w_loop (ι := Nat) (fun i => i ≤ l.length ∧ (l.take i).all mayE = true) (fun i => [(0, .t (.str name)), (1, .t (.slice .any 18 (l.map encEntry))), (6, .row 84 4 0 (((l.take i).map (wrOf name)).map encWr).length), (7, .t (.int .i64 i))]) (fun i => [(84, .grow 4 (((l.take i).map (wrOf name)).map encWr))]) (fun i => l.length - i) 0 (by simp) ?_ ?_
  · exact at_of [] (sub_eq rfl rfl (sub_eq rfl rfl (sub_eq rfl rfl (sub_eq rfl rfl sub_nil)))) rfl
  rintro i ⟨hi, hall⟩
  by_cases hlt : i < l.length
  · have hr : l[i]? = some l[i] := List.getElem?_eq_getElem hlt
    have hs := hsm l[i] (List.getElem_mem hlt)
    generalize l[i] = r at hr hs
    cases hm : mayE r with
    | false =>
      repeat' (first | refine w_stepZ progOk rfl rfl rfl rfl rfl ?_ | refine w_step progOk rfl rfl rfl ?_ | refine w_nil ?_ | refine w_seq ?_ | refine w_reg progOk rfl rfl ?_ | (refine w_gTP rfl rfl rfl rfl rfl (ht := fun h => ?_) (hf := fun h => ?_) <;> try exact prn) | (refine w_gFP rfl rfl rfl rfl rfl (ht := fun h => ?_) (hf := fun h => ?_) <;> try exact prn) | refine w_guardU rfl rfl rfl rfl rfl ?_ | (refine w_condP rfl (ht := fun h => ?_) (hf := fun h => ?_) <;> try exact prn) | refine w_block ?_ | refine w_skip ?_ | refine w_exit ?_ | refine w_ret ?_ | refine w_index progOk rfl rfl rfl rfl rfl rfl rfl (map_get (by assumption)) rfl ?_ | refine w_indexE progOk rfl rfl rfl rfl rfl rfl rfl (by assumption) (map_get (by assumption)) rfl ?_ | refine w_appNil progOk rfl rfl rfl rfl rfl rfl rfl rfl rfl rfl rfl rfl rfl (by simp [chunk]; omega) ?_ | refine w_appRow progOk rfl rfl rfl rfl rfl rfl rfl rfl rfl rfl rfl rfl rfl rfl (by simp [chunk]; omega) ?_ | refine s_step rfl rfl rfl rfl ?_ | refine s_nil ?_ | (refine s_gTP rfl rfl rfl rfl rfl (ht := fun h => ?_) (hf := fun h => ?_) <;> try exact prn) | (refine s_gFP rfl rfl rfl rfl rfl (ht := fun h => ?_) (hf := fun h => ?_) <;> try exact prn) | refine s_guardU rfl rfl rfl rfl rfl ?_ | refine s_index rfl rfl rfl rfl rfl rfl rfl (map_get (by assumption)) rfl ?_ | refine w_call progOk rfl rfl rfl rfl rfl rfl rfl (bytes7_no r hm hs.1 hs.2) rfl rfl ?_ | fail)
      have hno : l.all mayE = false := all_not hr hm
      refine w_fin rfl ?_
      simp only [putR, putE, hno, Bool.false_eq_true, and_false, if_false]
      exact sub_tuple ⟨sub_slNil, Sub.refl _, trivial⟩
    | true =>
      repeat' (first | refine w_stepZ progOk rfl rfl rfl rfl rfl ?_ | refine w_step progOk rfl rfl rfl ?_ | refine w_nil ?_ | refine w_seq ?_ | refine w_reg progOk rfl rfl ?_ | (refine w_gTP rfl rfl rfl rfl rfl (ht := fun h => ?_) (hf := fun h => ?_) <;> try exact prn) | (refine w_gFP rfl rfl rfl rfl rfl (ht := fun h => ?_) (hf := fun h => ?_) <;> try exact prn) | refine w_guardU rfl rfl rfl rfl rfl ?_ | (refine w_condP rfl (ht := fun h => ?_) (hf := fun h => ?_) <;> try exact prn) | refine w_block ?_ | refine w_skip ?_ | refine w_exit ?_ | refine w_ret ?_ | refine w_index progOk rfl rfl rfl rfl rfl rfl rfl (map_get (by assumption)) rfl ?_ | refine w_indexE progOk rfl rfl rfl rfl rfl rfl rfl (by assumption) (map_get (by assumption)) rfl ?_ | refine w_appNil progOk rfl rfl rfl rfl rfl rfl rfl rfl rfl rfl rfl rfl rfl (by simp [chunk]; omega) ?_ | refine w_appRow progOk rfl rfl rfl rfl rfl rfl rfl rfl rfl rfl rfl rfl rfl rfl (by simp [chunk]; omega) ?_ | refine s_step rfl rfl rfl rfl ?_ | refine s_nil ?_ | (refine s_gTP rfl rfl rfl rfl rfl (ht := fun h => ?_) (hf := fun h => ?_) <;> try exact prn) | (refine s_gFP rfl rfl rfl rfl rfl (ht := fun h => ?_) (hf := fun h => ?_) <;> try exact prn) | refine s_guardU rfl rfl rfl rfl rfl ?_ | refine s_index rfl rfl rfl rfl rfl rfl rfl (map_get (by assumption)) rfl ?_ | refine w_call progOk rfl rfl rfl rfl rfl rfl rfl (bytes7_ok r hm hs.1 hs.2) rfl rfl ?_ | refine w_call progOk rfl rfl rfl rfl rfl rfl rfl (frame4_ok _ (entryB_len hm)) rfl rfl ?_ | fail)
      refine w_next (i + 1) ⟨hlt, all_of_take hr hall hm⟩ (by omega) [] (sub_eq rfl rfl (sub_eq rfl rfl (sub_eq rfl ?_ (sub_eq rfl ?_ sub_nil)))) ?_
      · rw [take_succ hr]; simp [chunk]
      · rw [wrap64 (by omega) (by omega)]; rfl
      · rw [take_succ hr]; simp [chunk, ti88, encWr, wrOf, dropS, killS]
  · repeat' (first | refine w_stepZ progOk rfl rfl rfl rfl rfl ?_ | refine w_step progOk rfl rfl rfl ?_ | refine w_nil ?_ | refine w_seq ?_ | refine w_reg progOk rfl rfl ?_ | (refine w_gTP rfl rfl rfl rfl rfl (ht := fun h => ?_) (hf := fun h => ?_) <;> try exact prn) | (refine w_gFP rfl rfl rfl rfl rfl (ht := fun h => ?_) (hf := fun h => ?_) <;> try exact prn) | refine w_guardU rfl rfl rfl rfl rfl ?_ | (refine w_condP rfl (ht := fun h => ?_) (hf := fun h => ?_) <;> try exact prn) | refine w_block ?_ | refine w_skip ?_ | refine w_exit ?_ | refine w_ret ?_ | refine w_index progOk rfl rfl rfl rfl rfl rfl rfl (map_get (by assumption)) rfl ?_ | refine w_indexE progOk rfl rfl rfl rfl rfl rfl rfl (by assumption) (map_get (by assumption)) rfl ?_ | refine w_appNil progOk rfl rfl rfl rfl rfl rfl rfl rfl rfl rfl rfl rfl rfl (by simp [chunk]; omega) ?_ | refine w_appRow progOk rfl rfl rfl rfl rfl rfl rfl rfl rfl rfl rfl rfl rfl rfl (by simp [chunk]; omega) ?_ | refine s_step rfl rfl rfl rfl ?_ | refine s_nil ?_ | (refine s_gTP rfl rfl rfl rfl rfl (ht := fun h => ?_) (hf := fun h => ?_) <;> try exact prn) | (refine s_gFP rfl rfl rfl rfl rfl (ht := fun h => ?_) (hf := fun h => ?_) <;> try exact prn) | refine s_guardU rfl rfl rfl rfl rfl ?_ | refine s_index rfl rfl rfl rfl rfl rfl rfl (map_get (by assumption)) rfl ?_ | fail)
    have hall' := all_end (by omega) hall
    refine w_fin rfl (Sub.of_eq ?_)
    simp only [putR, putE, hne, hall', ne_eq, not_false_eq_true, and_self, if_true]
    rw [List.take_of_length_le (by omega)]
    simp [frzA, putW, chunk, ti88, encWr, wrOf]
    exact List.take_of_length_le (by simp)

theorem same17_ok (a b : List Wr) (ha : a.length ≤ 100000000) : Ct Tryz.prog 13 [.t (.slice .any 4 (a.map encWr)), .t (.slice .any 4 (b.map encWr))] [] (.t (.bool (decide (a = b)))) [] := by
  refine ct0 progOk Tryz.func13 rfl false rfl rfl ?_
  have hla : (a.map encWr).length = a.length := List.length_map ..
  have hlb : (b.map encWr).length = b.length := List.length_map ..
  repeat' (first | refine w_stepZ progOk rfl rfl rfl rfl rfl ?_ | refine w_step progOk rfl rfl rfl ?_ | refine w_nil ?_ | refine w_seq ?_ | refine w_reg progOk rfl rfl ?_ | (refine w_gTP rfl rfl rfl rfl rfl (ht := fun h => ?_) (hf := fun h => ?_) <;> try exact prn) | (refine w_gFP rfl rfl rfl rfl rfl (ht := fun h => ?_) (hf := fun h => ?_) <;> try exact prn) | refine w_guardU rfl rfl rfl rfl rfl ?_ | (refine w_condP rfl (ht := fun h => ?_) (hf := fun h => ?_) <;> try exact prn) | refine w_block ?_ | refine w_skip ?_ | refine w_exit ?_ | refine w_ret ?_ | refine w_index progOk rfl rfl rfl rfl rfl rfl rfl (map_get (by assumption)) rfl ?_ | refine w_indexE progOk rfl rfl rfl rfl rfl rfl rfl (by assumption) (map_get (by assumption)) rfl ?_ | refine w_appNil progOk rfl rfl rfl rfl rfl rfl rfl rfl rfl rfl rfl rfl rfl (by simp [chunk]; omega) ?_ | refine w_appRow progOk rfl rfl rfl rfl rfl rfl rfl rfl rfl rfl rfl rfl rfl rfl (by simp [chunk]; omega) ?_ | refine w_regD (m := 8) progOk (by kernel_rfl) rfl rfl rfl rfl ?_ | refine s_step rfl rfl rfl rfl ?_ | refine s_nil ?_ | (refine s_gTP rfl rfl rfl rfl rfl (ht := fun h => ?_) (hf := fun h => ?_) <;> try exact prn) | (refine s_gFP rfl rfl rfl rfl rfl (ht := fun h => ?_) (hf := fun h => ?_) <;> try exact prn) | refine s_guardU rfl rfl rfl rfl rfl ?_ | refine s_index rfl rfl rfl rfl rfl rfl rfl (map_get (by assumption)) rfl ?_ | fail)
  · exact w_fin rfl (subB (bF fun e => by subst e; exact h rfl))
  have hl : a.length = b.length := by omega
  refine w_loop (ι := Nat) (fun i => i ≤ a.length ∧ a.take i = b.take i) (fun i => [(0, .t (.slice .any 4 (a.map encWr))), (1, .t (.slice .any 4 (b.map encWr))), (12, .t (.int .i64 ((a.map encWr).length : Int))), (13, .t (.int .i64 i))]) (fun _ => []) (fun i => a.length - i) 0 (by simp) ?_ ?_
  · exact at_of [] (sub_eq rfl rfl (sub_eq rfl rfl (sub_eq rfl rfl (sub_eq rfl rfl sub_nil)))) rfl
  rintro i ⟨hi, htk⟩
  by_cases hlt : i < a.length
  · have hr : a[i]? = some a[i] := List.getElem?_eq_getElem hlt
    have hs : b[i]? = some (b[i]'(by omega)) := List.getElem?_eq_getElem _
    generalize a[i] = r at hr
    generalize b[i]'(by omega) = s at hs
    repeat' (first | refine w_stepZ progOk rfl rfl rfl rfl rfl ?_ | refine w_step progOk rfl rfl rfl ?_ | refine w_nil ?_ | refine w_seq ?_ | refine w_reg progOk rfl rfl ?_ | (refine w_gTP rfl rfl rfl rfl rfl (ht := fun h => ?_) (hf := fun h => ?_) <;> try exact prn) | (refine w_gFP rfl rfl rfl rfl rfl (ht := fun h => ?_) (hf := fun h => ?_) <;> try exact prn) | refine w_guardU rfl rfl rfl rfl rfl ?_ | (refine w_condP rfl (ht := fun h => ?_) (hf := fun h => ?_) <;> try exact prn) | refine w_block ?_ | refine w_skip ?_ | refine w_exit ?_ | refine w_ret ?_ | refine w_index progOk rfl rfl rfl rfl rfl rfl rfl (map_get (by assumption)) rfl ?_ | refine w_indexE progOk rfl rfl rfl rfl rfl rfl rfl (by assumption) (map_get (by assumption)) rfl ?_ | refine w_appNil progOk rfl rfl rfl rfl rfl rfl rfl rfl rfl rfl rfl rfl rfl (by simp [chunk]; omega) ?_ | refine w_appRow progOk rfl rfl rfl rfl rfl rfl rfl rfl rfl rfl rfl rfl rfl rfl (by simp [chunk]; omega) ?_ | refine w_regD (m := 8) progOk (by kernel_rfl) rfl rfl rfl rfl ?_ | refine s_step rfl rfl rfl rfl ?_ | refine s_nil ?_ | (refine s_gTP rfl rfl rfl rfl rfl (ht := fun h => ?_) (hf := fun h => ?_) <;> try exact prn) | (refine s_gFP rfl rfl rfl rfl rfl (ht := fun h => ?_) (hf := fun h => ?_) <;> try exact prn) | refine s_guardU rfl rfl rfl rfl rfl ?_ | refine s_index rfl rfl rfl rfl rfl rfl rfl (map_get (by assumption)) rfl ?_ | fail)
    · exact w_fin rfl (subB (bF (fun e => by subst e; rw [hr] at hs; cases hs; simp at h)))
    · have e : r = s := by cases r; cases s; simp at h; simp [h]
      refine w_next (i + 1) ⟨hlt, take_ext hr hs htk e⟩ (by omega) [] (sub_eq rfl rfl (sub_eq rfl rfl (sub_eq rfl rfl (sub_eq rfl ?_ sub_nil)))) rfl
      rw [wrap64 (by omega) (by omega)]; rfl
  · repeat' (first | refine w_stepZ progOk rfl rfl rfl rfl rfl ?_ | refine w_step progOk rfl rfl rfl ?_ | refine w_nil ?_ | refine w_seq ?_ | refine w_reg progOk rfl rfl ?_ | (refine w_gTP rfl rfl rfl rfl rfl (ht := fun h => ?_) (hf := fun h => ?_) <;> try exact prn) | (refine w_gFP rfl rfl rfl rfl rfl (ht := fun h => ?_) (hf := fun h => ?_) <;> try exact prn) | refine w_guardU rfl rfl rfl rfl rfl ?_ | (refine w_condP rfl (ht := fun h => ?_) (hf := fun h => ?_) <;> try exact prn) | refine w_block ?_ | refine w_skip ?_ | refine w_exit ?_ | refine w_ret ?_ | refine w_index progOk rfl rfl rfl rfl rfl rfl rfl (map_get (by assumption)) rfl ?_ | refine w_indexE progOk rfl rfl rfl rfl rfl rfl rfl (by assumption) (map_get (by assumption)) rfl ?_ | refine w_appNil progOk rfl rfl rfl rfl rfl rfl rfl rfl rfl rfl rfl rfl rfl (by simp [chunk]; omega) ?_ | refine w_appRow progOk rfl rfl rfl rfl rfl rfl rfl rfl rfl rfl rfl rfl rfl rfl (by simp [chunk]; omega) ?_ | refine w_regD (m := 8) progOk (by kernel_rfl) rfl rfl rfl rfl ?_ | refine s_step rfl rfl rfl rfl ?_ | refine s_nil ?_ | (refine s_gTP rfl rfl rfl rfl rfl (ht := fun h => ?_) (hf := fun h => ?_) <;> try exact prn) | (refine s_gFP rfl rfl rfl rfl rfl (ht := fun h => ?_) (hf := fun h => ?_) <;> try exact prn) | refine s_guardU rfl rfl rfl rfl rfl ?_ | refine s_index rfl rfl rfl rfl rfl rfl rfl (map_get (by assumption)) rfl ?_ | fail)
    exact w_fin rfl (subB (bT (take_eq hl (by omega) htk)))

end Go.Proofs.YtpdmaenhenfofaaGreatDoor
