/- Contracts of references: entries that may be, their bytes. -/
import Derived.Test.YtpdmaenhenfofaaGreatDoorRf
set_option linter.unusedVariables false
set_option linter.unusedSimpArgs false
namespace Go.Proofs.YtpdmaenhenfofaaGreatDoor
open Go.Am
attribute [local irreducible] Decidable.decide
set_option maxRecDepth 100000
set_option maxHeartbeats 1000000

def isBare (x : Entry) : Bool := decide (x = bareE x)
def mayE (x : Entry) : Bool := isBare x &&
  (if x.kind = 0 then mayBatch x.b
  else if x.kind = 1 then decide (1 ≤ x.b.pid ∧ x.b.pid ≤ 8 ∧ 0 ≤ x.b.epoch ∧ x.b.epoch ≤ 100)
  else if x.kind = 2 then decide (0 ≤ x.offset ∧ x.offset ≤ 1048576)
  else if x.kind = 3 then mayBatch x.b && x.b.txn && decide (0 ≤ x.next ∧ x.next ≤ 1048576)
  else if x.kind = 4 then decide (1 ≤ x.b.pid ∧ x.b.pid ≤ 8 ∧ 0 ≤ x.b.epoch ∧ x.b.epoch ≤ 100) && decide (0 ≤ x.next ∧ x.next ≤ 1048576)
  else if x.kind = 5 then mayRow x.row
  else if x.kind = 6 then knownP x.prod
  else false)

theorem may7_ok (x : Entry) (ha : x.b.recs.length ≤ 1000000) (hp : x.prod.seen.length ≤ 1000000) : Ct Tryz.prog 63 [.agg (liftT (encEntry x))] [] (.t (.bool (mayE x))) [] := by
  refine ct0 progOk Tryz.func63 rfl false rfl rfl ?_
  have hsm : Ct Tryz.prog 115 [.agg (liftT (encEntry x)), .agg (liftT (encEntry (bareE x)))] [] (.t (.bool (isBare x))) [] := same7_ok x (bareE x) ha hp
  repeat' (first | refine w_stepZ progOk rfl rfl rfl rfl rfl ?_ | refine w_step progOk rfl rfl rfl ?_ | refine w_nil ?_ | refine w_seq ?_ | refine w_reg progOk rfl rfl ?_ | (refine w_gTP rfl rfl rfl rfl rfl (ht := fun h => ?_) (hf := fun h => ?_) <;> try exact prn) | (refine w_gFP rfl rfl rfl rfl rfl (ht := fun h => ?_) (hf := fun h => ?_) <;> try exact prn) | refine w_guardU rfl rfl rfl rfl rfl ?_ | (refine w_condP rfl (ht := fun h => ?_) (hf := fun h => ?_) <;> try exact prn) | refine w_block ?_ | refine w_skip ?_ | refine w_exit ?_ | refine w_ret ?_ | refine w_index progOk rfl rfl rfl rfl rfl rfl rfl (map_get (by assumption)) rfl ?_ | refine w_indexE progOk rfl rfl rfl rfl rfl rfl rfl (by assumption) (map_get (by assumption)) rfl ?_ | refine w_appNil progOk rfl rfl rfl rfl rfl rfl rfl rfl rfl rfl rfl rfl rfl (by simp [chunk]; omega) ?_ | refine w_appRow progOk rfl rfl rfl rfl rfl rfl rfl rfl rfl rfl rfl rfl rfl rfl (by simp [chunk]; omega) ?_ | refine w_regD (m := 3) progOk (by kernel_rfl) rfl rfl rfl rfl ?_ | refine s_step rfl rfl rfl rfl ?_ | refine s_nil ?_ | (refine s_gTP rfl rfl rfl rfl rfl (ht := fun h => ?_) (hf := fun h => ?_) <;> try exact prn) | (refine s_gFP rfl rfl rfl rfl rfl (ht := fun h => ?_) (hf := fun h => ?_) <;> try exact prn) | refine s_guardU rfl rfl rfl rfl rfl ?_ | refine s_index rfl rfl rfl rfl rfl rfl rfl (map_get (by assumption)) rfl ?_ | refine w_call progOk rfl rfl rfl rfl rfl rfl rfl (within_ok _ _ _) rfl rfl ?_ | refine w_call progOk rfl rfl rfl rfl rfl rfl rfl (producer7_ok _ _) rfl rfl ?_ | refine s_call rfl rfl rfl rfl rfl (bare_ok x) rfl rfl ?_ | refine w_call progOk rfl rfl rfl rfl rfl rfl rfl (bare_ok x) rfl rfl ?_ | refine s_call rfl rfl rfl rfl rfl (hsm) rfl rfl ?_ | refine w_call progOk rfl rfl rfl rfl rfl rfl rfl (hsm) rfl rfl ?_ | refine w_call progOk rfl rfl rfl rfl rfl rfl rfl (may6_ok x.b) rfl rfl ?_ | refine w_call progOk rfl rfl rfl rfl rfl rfl rfl (mayRow7_ok x.row) rfl rfl ?_ | refine w_call progOk rfl rfl rfl rfl rfl rfl rfl (known7_ok x.prod) rfl rfl ?_ | fail)
  all_goals (refine w_fin rfl (subB ?_); unfold mayE; clear hsm; (try simp only [Decidable.not_not] at *); simp [*])

def recB (r : Rec) : Bs := textB r.key ++ textB r.value
def flagB (y : Bool) : Bs := [if y then 1 else 0]
def batchB (b : Batch) : Bs := vint b.pid.toNat ++ vint b.epoch.toNat ++ vint b.seq.toNat ++ flagB b.txn ++ vint b.recs.length ++ b.recs.flatMap recB

theorem textB_len {s : Bs} (h : s.length ≤ 16) : (textB s).length ≤ 22 := by
  have := vint_len6 (n := s.length) (by omega)
  simp [textB]; omega

theorem recs_len : ∀ {l : List Rec}, l.all okRec = true → (l.flatMap recB).length ≤ 44 * l.length
  | [], _ => by simp
  | r :: l, h => by
    simp only [List.all_cons, Bool.and_eq_true] at h
    have ih := recs_len h.2
    have h1 := okRec_iff.1 h.1
    have h2 := textB_len (s := r.key) (by omega)
    have h3 := textB_len (s := r.value) (by omega)
    simp only [List.flatMap_cons, List.length_append, List.length_cons, recB]; omega

theorem nil_bytes {sz : Nat} : Sub (.t (.slice .nil sz [])) (.t (.slice .any 1 (([] : Bs).map encByte))) := sub_slNil

theorem bytes6_ok (b : Batch) (hb : mayBatch b = true) : Ct Tryz.prog 64 [.agg (liftT (encBatch b))] [] (.tuple [.t (.str (batchB b)), .t (.int .i64 0)]) [] := by
  have hm := hb
  simp only [mayBatch, Bool.and_eq_true, decide_eq_true_eq] at hm
  obtain ⟨hbd, hall⟩ := hm
  have hbd' := hbd; unfold boundsB at hbd'
  have hlm : (b.recs.map encRec).length = b.recs.length := List.length_map ..
  have l1 := vint_len6 (n := b.pid.toNat) (by omega)
  have l2 := vint_len6 (n := b.epoch.toNat) (by omega)
  have l3 := vint_len6 (n := b.seq.toNat) (by omega)
  have l4 := vint_len6 (n := b.recs.length) (by omega)
  refine ct0 progOk Tryz.func64 rfl false rfl rfl ?_
  have c1 : Ct Tryz.prog 122 [.t (.slice .nil 0 []), .t (.int .i64 b.pid)] [] _ [] := (number_ok [] b.pid (by omega) (by omega) (by simp)).args ⟨nil_bytes, Sub.refl _, trivial⟩
  have cm : Ct Tryz.prog 117 [.agg (liftT (encBatch b))] [] (.t (.bool true)) [] := hb ▸ may6_ok b
  repeat' (first | refine w_stepZ progOk rfl rfl rfl rfl rfl ?_ | refine w_step progOk rfl rfl rfl ?_ | refine w_nil ?_ | refine w_seq ?_ | refine w_reg progOk rfl rfl ?_ | (refine w_gTP rfl rfl rfl rfl rfl (ht := fun h => ?_) (hf := fun h => ?_) <;> try exact prn) | (refine w_gFP rfl rfl rfl rfl rfl (ht := fun h => ?_) (hf := fun h => ?_) <;> try exact prn) | refine w_guardU rfl rfl rfl rfl rfl ?_ | (refine w_condP rfl (ht := fun h => ?_) (hf := fun h => ?_) <;> try exact prn) | refine w_block ?_ | refine w_skip ?_ | refine w_exit ?_ | refine w_ret ?_ | refine w_index progOk rfl rfl rfl rfl rfl rfl rfl (map_get (by assumption)) rfl ?_ | refine w_indexE progOk rfl rfl rfl rfl rfl rfl rfl (by assumption) (map_get (by assumption)) rfl ?_ | refine w_appNil progOk rfl rfl rfl rfl rfl rfl rfl rfl rfl rfl rfl rfl rfl (by simp [chunk]; omega) ?_ | refine w_appRow progOk rfl rfl rfl rfl rfl rfl rfl rfl rfl rfl rfl rfl rfl rfl (by simp [chunk]; omega) ?_ | refine s_step rfl rfl rfl rfl ?_ | refine s_nil ?_ | (refine s_gTP rfl rfl rfl rfl rfl (ht := fun h => ?_) (hf := fun h => ?_) <;> try exact prn) | (refine s_gFP rfl rfl rfl rfl rfl (ht := fun h => ?_) (hf := fun h => ?_) <;> try exact prn) | refine s_guardU rfl rfl rfl rfl rfl ?_ | refine s_index rfl rfl rfl rfl rfl rfl rfl (map_get (by assumption)) rfl ?_ | refine w_call progOk rfl rfl rfl rfl rfl rfl rfl (cm) rfl rfl ?_ | refine w_call progOk rfl rfl rfl rfl rfl rfl rfl (c1) rfl rfl ?_ | refine w_call progOk rfl rfl rfl rfl rfl rfl rfl (number_ok _ _ (by omega) (by omega) (by simp; omega)) rfl rfl ?_ | refine w_call progOk rfl rfl rfl rfl rfl rfl rfl (flag_ok _ _ (by simp; omega)) rfl rfl ?_ | fail)
  refine w_loop (ι := Nat) (fun i => i ≤ b.recs.length) (fun i => [(1, .ref 2 0), (4, .t (.slice .any 1 ((vint b.pid.toNat ++ vint b.epoch.toNat ++ vint b.seq.toNat ++ flagB b.txn ++ vint b.recs.length ++ (b.recs.take i).flatMap recB).map encByte))), (6, .t (.int .i64 i))]) (fun _ => [(2, .cells (liftT (encBatch b)))]) (fun i => b.recs.length - i) 0 (by simp) ?_ ?_
  · exact at_of [] (sub_eq rfl rfl (sub_eq rfl (by simp [flagB]) (sub_eq rfl rfl sub_nil))) rfl
  rintro i hi
  by_cases hlt : i < b.recs.length
  · have hr : b.recs[i]? = some b.recs[i] := List.getElem?_eq_getElem hlt
    have hrok := okRec_iff.1 (List.all_eq_true.1 hall b.recs[i] (List.getElem_mem hlt))
    have hl5 := recs_len (l := b.recs.take i) (List.all_eq_true.2 fun x hx => List.all_eq_true.1 hall x (List.mem_of_mem_take hx))
    rw [List.length_take] at hl5
    generalize b.recs[i] = r at hr hrok
    have hl6 := textB_len (s := r.key) (by omega)
    repeat' (first | refine w_stepZ progOk rfl rfl rfl rfl rfl ?_ | refine w_step progOk rfl rfl rfl ?_ | refine w_nil ?_ | refine w_seq ?_ | refine w_reg progOk rfl rfl ?_ | (refine w_gTP rfl rfl rfl rfl rfl (ht := fun h => ?_) (hf := fun h => ?_) <;> try exact prn) | (refine w_gFP rfl rfl rfl rfl rfl (ht := fun h => ?_) (hf := fun h => ?_) <;> try exact prn) | refine w_guardU rfl rfl rfl rfl rfl ?_ | (refine w_condP rfl (ht := fun h => ?_) (hf := fun h => ?_) <;> try exact prn) | refine w_block ?_ | refine w_skip ?_ | refine w_exit ?_ | refine w_ret ?_ | refine w_index progOk rfl rfl rfl rfl rfl rfl rfl (map_get (by assumption)) rfl ?_ | refine w_indexE progOk rfl rfl rfl rfl rfl rfl rfl (by assumption) (map_get (by assumption)) rfl ?_ | refine w_appNil progOk rfl rfl rfl rfl rfl rfl rfl rfl rfl rfl rfl rfl rfl (by simp [chunk]; omega) ?_ | refine w_appRow progOk rfl rfl rfl rfl rfl rfl rfl rfl rfl rfl rfl rfl rfl rfl (by simp [chunk]; omega) ?_ | refine s_step rfl rfl rfl rfl ?_ | refine s_nil ?_ | (refine s_gTP rfl rfl rfl rfl rfl (ht := fun h => ?_) (hf := fun h => ?_) <;> try exact prn) | (refine s_gFP rfl rfl rfl rfl rfl (ht := fun h => ?_) (hf := fun h => ?_) <;> try exact prn) | refine s_guardU rfl rfl rfl rfl rfl ?_ | refine s_index rfl rfl rfl rfl rfl rfl rfl (map_get (by assumption)) rfl ?_ | refine w_call progOk rfl rfl rfl rfl rfl rfl rfl (text_ok _ r.key (by omega) (by simp only [List.length_append, List.length_cons, List.length_nil, flagB]; omega)) rfl rfl ?_ | refine w_call progOk rfl rfl rfl rfl rfl rfl rfl (text_ok _ r.value (by omega) (by simp only [List.length_append, List.length_cons, List.length_nil, flagB]; omega)) rfl rfl ?_ | fail)
    refine w_next (i + 1) (by omega) (by omega) [] (sub_eq rfl rfl (sub_eq rfl ?_ (sub_eq rfl ?_ sub_nil))) rfl
    · rw [take_succ hr]; simp [recB]
    · rw [wrap64 (by omega) (by omega)]; rfl
  · repeat' (first | refine w_stepZ progOk rfl rfl rfl rfl rfl ?_ | refine w_step progOk rfl rfl rfl ?_ | refine w_nil ?_ | refine w_seq ?_ | refine w_reg progOk rfl rfl ?_ | (refine w_gTP rfl rfl rfl rfl rfl (ht := fun h => ?_) (hf := fun h => ?_) <;> try exact prn) | (refine w_gFP rfl rfl rfl rfl rfl (ht := fun h => ?_) (hf := fun h => ?_) <;> try exact prn) | refine w_guardU rfl rfl rfl rfl rfl ?_ | (refine w_condP rfl (ht := fun h => ?_) (hf := fun h => ?_) <;> try exact prn) | refine w_block ?_ | refine w_skip ?_ | refine w_exit ?_ | refine w_ret ?_ | refine w_index progOk rfl rfl rfl rfl rfl rfl rfl (map_get (by assumption)) rfl ?_ | refine w_indexE progOk rfl rfl rfl rfl rfl rfl rfl (by assumption) (map_get (by assumption)) rfl ?_ | refine w_appNil progOk rfl rfl rfl rfl rfl rfl rfl rfl rfl rfl rfl rfl rfl (by simp [chunk]; omega) ?_ | refine w_appRow progOk rfl rfl rfl rfl rfl rfl rfl rfl rfl rfl rfl rfl rfl rfl (by simp [chunk]; omega) ?_ | refine s_step rfl rfl rfl rfl ?_ | refine s_nil ?_ | (refine s_gTP rfl rfl rfl rfl rfl (ht := fun h => ?_) (hf := fun h => ?_) <;> try exact prn) | (refine s_gFP rfl rfl rfl rfl rfl (ht := fun h => ?_) (hf := fun h => ?_) <;> try exact prn) | refine s_guardU rfl rfl rfl rfl rfl ?_ | refine s_index rfl rfl rfl rfl rfl rfl rfl (map_get (by assumption)) rfl ?_ | refine w_convS progOk rfl rfl rfl rfl rfl rfl (bytesE_eq _).symm rfl ?_ | fail)
    refine w_fin rfl (Sub.of_eq ?_); rw [List.take_of_length_le (by omega)]; rfl

end Go.Proofs.YtpdmaenhenfofaaGreatDoor
