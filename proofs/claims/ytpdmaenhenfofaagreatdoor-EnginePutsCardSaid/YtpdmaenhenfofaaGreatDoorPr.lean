/- Contracts of the program: copies of a transaction that has them. -/
import Derived.Test.YtpdmaenhenfofaaGreatDoorPq
set_option linter.unusedVariables false
set_option linter.unusedSimpArgs false
namespace Go.Proofs.YtpdmaenhenfofaaGreatDoor
open Go.Am
attribute [local irreducible] Decidable.decide
set_option maxRecDepth 100000
set_option maxHeartbeats 1000000

def behindB (b : Batch) : Int := b.seq + b.recs.length
def copyChain (pid epoch : Int) : Int → List Batch → Bool
  | _, [] => true
  | next, b :: r => mayBatch b && b.txn && decide (b.pid = pid) && decide (b.epoch = epoch) && decide (b.seq = next) && copyChain pid epoch (behindB b) r
def firstSeq : List Batch → Int
  | [] => 0
  | b :: _ => b.seq
def lastB : List Batch → Int
  | [] => 0
  | [b] => behindB b
  | _ :: r => lastB r
def copyOk (o : Opn) : Bool := decide (1 ≤ o.batches.length ∧ o.batches.length ≤ 8) && copyChain o.pid o.epoch (firstSeq o.batches) o.batches
def copyAt (o : Opn) (i : Nat) (b : Batch) : Entry := if i + 1 = o.batches.length then ⟨3, b, true, lastB o.batches, 0, row0, prod0⟩ else ⟨3, b, false, 0, 0, row0, prod0⟩
def copiesOf (o : Opn) : List Entry := o.batches.mapIdx (copyAt o)

theorem may_bounds {b : Batch} (h : mayBatch b = true) : 0 ≤ b.seq ∧ b.seq + b.recs.length ≤ 1048576 ∧ 1 ≤ b.recs.length ∧ b.recs.length ≤ 4 := by
  simp only [mayBatch, Bool.and_eq_true, decide_eq_true_eq] at h
  have h := h.1
  unfold boundsB at h; omega

theorem rbehind_ok (b : Batch) (hb : mayBatch b = true) : Ct Tryz.prog 98 [.agg (liftT (encBatch b))] [] (.t (.int .i64 (behindB b))) [] := by
  have h := may_bounds hb
  refine ct0 progOk Tryz.func98 rfl false rfl rfl ?_
  repeat' (first | refine w_stepZ progOk rfl rfl rfl rfl rfl ?_ | refine w_step progOk rfl rfl rfl ?_ | refine w_nil ?_ | refine w_seq ?_ | refine w_reg progOk rfl rfl ?_ | (refine w_gTP rfl rfl rfl rfl rfl (ht := fun h => ?_) (hf := fun h => ?_) <;> try exact prn) | (refine w_gFP rfl rfl rfl rfl rfl (ht := fun h => ?_) (hf := fun h => ?_) <;> try exact prn) | refine w_guardU rfl rfl rfl rfl rfl ?_ | (refine w_condP rfl (ht := fun h => ?_) (hf := fun h => ?_) <;> try exact prn) | refine w_block ?_ | refine w_skip ?_ | refine w_exit ?_ | refine w_ret ?_ | refine w_index progOk rfl rfl rfl rfl rfl rfl rfl (map_get (by assumption)) rfl ?_ | refine w_indexE progOk rfl rfl rfl rfl rfl rfl rfl (by assumption) (map_get (by assumption)) rfl ?_ | refine w_appNil progOk rfl rfl rfl rfl rfl rfl rfl rfl rfl rfl rfl rfl rfl (by simp [chunk]; omega) ?_ | refine w_appRow progOk rfl rfl rfl rfl rfl rfl rfl rfl rfl rfl rfl rfl rfl rfl (by simp [chunk]; omega) ?_ | refine s_step rfl rfl rfl rfl ?_ | refine s_nil ?_ | (refine s_gTP rfl rfl rfl rfl rfl (ht := fun h => ?_) (hf := fun h => ?_) <;> try exact prn) | (refine s_gFP rfl rfl rfl rfl rfl (ht := fun h => ?_) (hf := fun h => ?_) <;> try exact prn) | refine s_guardU rfl rfl rfl rfl rfl ?_ | refine s_index rfl rfl rfl rfl rfl rfl rfl (map_get (by assumption)) rfl ?_ | fail)
  refine w_fin rfl (Sub.of_eq ?_)
  rw [List.length_map, wrap64 (by omega) (by omega)]; rfl

theorem cloneRec_ok (l : List Rec) (h0 : l ≠ []) (hl : l.length ≤ 1000000) : Ct Tryz.prog 128 [.t (.slice .any 2 (l.map encRec))] [] (.t (.slice .any 2 (l.map encRec))) [] := by
  refine ct0 progOk Tryz.func128 rfl false rfl rfl ?_
  cases l with
  | nil => exact absurd rfl h0
  | cons a r =>
    repeat' (first | refine w_stepZ progOk rfl rfl rfl rfl rfl ?_ | refine w_step progOk rfl rfl rfl ?_ | refine w_nil ?_ | refine w_seq ?_ | refine w_reg progOk rfl rfl ?_ | (refine w_gTP rfl rfl rfl rfl rfl (ht := fun h => ?_) (hf := fun h => ?_) <;> try exact prn) | (refine w_gFP rfl rfl rfl rfl rfl (ht := fun h => ?_) (hf := fun h => ?_) <;> try exact prn) | refine w_guardU rfl rfl rfl rfl rfl ?_ | (refine w_condP rfl (ht := fun h => ?_) (hf := fun h => ?_) <;> try exact prn) | refine w_block ?_ | refine w_skip ?_ | refine w_exit ?_ | refine w_ret ?_ | refine w_index progOk rfl rfl rfl rfl rfl rfl rfl (map_get (by assumption)) rfl ?_ | refine w_indexE progOk rfl rfl rfl rfl rfl rfl rfl (by assumption) (map_get (by assumption)) rfl ?_ | refine w_appNil progOk rfl rfl rfl rfl rfl rfl rfl rfl rfl rfl rfl rfl rfl (by simp [chunk]; omega) ?_ | refine w_appRow progOk rfl rfl rfl rfl rfl rfl rfl rfl rfl rfl rfl rfl rfl rfl (by simp [chunk]; omega) ?_ | refine s_step rfl rfl rfl rfl ?_ | refine s_nil ?_ | (refine s_gTP rfl rfl rfl rfl rfl (ht := fun h => ?_) (hf := fun h => ?_) <;> try exact prn) | (refine s_gFP rfl rfl rfl rfl rfl (ht := fun h => ?_) (hf := fun h => ?_) <;> try exact prn) | refine s_guardU rfl rfl rfl rfl rfl ?_ | refine s_index rfl rfl rfl rfl rfl rfl rfl (map_get (by assumption)) rfl ?_ | refine w_appE progOk rfl rfl rfl rfl rfl rfl rfl rfl rfl rfl rfl rfl rfl (by simp at hl ⊢; omega) ?_ | fail)
    refine w_fin rfl (Sub.of_eq ?_)
    simp [frzA]
    exact List.take_of_length_le (by simp)

theorem lastB_get : ∀ {l : List Batch} {b : Batch}, l[l.length - 1]? = some b → lastB l = behindB b
  | [], b, h => by simp at h
  | [a], b, h => by simp at h; subst h; rfl
  | a :: c :: r, b, h => by
    have : (c :: r)[(c :: r).length - 1]? = some b := by simpa using h
    simp only [lastB]; exact lastB_get this

theorem cbehind_ok (o : Opn) (h1 : 1 ≤ o.batches.length) (h2 : o.batches.length ≤ 8) (hm : ∀ b ∈ o.batches, mayBatch b = true) : Ct Tryz.prog 160 [.agg (liftT (encOpn o))] [] (.t (.int .i64 (lastB o.batches))) [] := by
  have hlm : (o.batches.map encBatch).length = o.batches.length := List.length_map ..
  have hr : o.batches[o.batches.length - 1]? = some (o.batches[o.batches.length - 1]'(by omega)) := List.getElem?_eq_getElem _
  have hb := hm _ (List.mem_of_getElem? hr)
  generalize o.batches[o.batches.length - 1]'(by omega) = b at hr hb
  rw [lastB_get hr]
  refine ct0 progOk Tryz.func160 rfl false rfl rfl ?_
  have hw : IntKind.i64.wrap (((o.batches.map encBatch).length : Int) - 1) = ((o.batches.length - 1 : Nat) : Int) := by rw [hlm, wrap64 (by omega) (by omega)]; omega
  repeat' (first | refine w_stepZ progOk rfl rfl rfl rfl rfl ?_ | refine w_step progOk rfl rfl rfl ?_ | refine w_nil ?_ | refine w_seq ?_ | refine w_reg progOk rfl rfl ?_ | (refine w_gTP rfl rfl rfl rfl rfl (ht := fun h => ?_) (hf := fun h => ?_) <;> try exact prn) | (refine w_gFP rfl rfl rfl rfl rfl (ht := fun h => ?_) (hf := fun h => ?_) <;> try exact prn) | refine w_guardU rfl rfl rfl rfl rfl ?_ | (refine w_condP rfl (ht := fun h => ?_) (hf := fun h => ?_) <;> try exact prn) | refine w_block ?_ | refine w_skip ?_ | refine w_exit ?_ | refine w_ret ?_ | refine w_index progOk rfl rfl rfl rfl rfl rfl rfl (map_get (by assumption)) rfl ?_ | refine w_indexE progOk rfl rfl rfl rfl rfl rfl rfl (by assumption) (map_get (by assumption)) rfl ?_ | refine w_appNil progOk rfl rfl rfl rfl rfl rfl rfl rfl rfl rfl rfl rfl rfl (by simp [chunk]; omega) ?_ | refine w_appRow progOk rfl rfl rfl rfl rfl rfl rfl rfl rfl rfl rfl rfl rfl rfl (by simp [chunk]; omega) ?_ | refine s_step rfl rfl rfl rfl ?_ | refine s_nil ?_ | (refine s_gTP rfl rfl rfl rfl rfl (ht := fun h => ?_) (hf := fun h => ?_) <;> try exact prn) | (refine s_gFP rfl rfl rfl rfl rfl (ht := fun h => ?_) (hf := fun h => ?_) <;> try exact prn) | refine s_guardU rfl rfl rfl rfl rfl ?_ | refine s_index rfl rfl rfl rfl rfl rfl rfl (map_get (by assumption)) rfl ?_ | refine w_indexE progOk rfl rfl rfl rfl rfl rfl rfl hw (map_get hr) rfl ?_ | refine w_call progOk rfl rfl rfl rfl rfl rfl rfl (rbehind_ok b hb) rfl rfl ?_ | fail)
  exact w_fin rfl (Sub.of_eq rfl)

theorem copy1_ok (o : Opn) (i : Nat) (b : Batch) (h1 : 1 ≤ o.batches.length) (h2 : o.batches.length ≤ 8) (hm : ∀ b ∈ o.batches, mayBatch b = true) (hb : mayBatch b = true) (hi : i < o.batches.length) :
    Ct Tryz.prog 159 [.t (.int .i64 i), .agg (liftT (encBatch b)), .t (.ptr (encOpn o))] [] (.agg (liftT (encEntry (copyAt o i b)))) [] := by
  have hlm : (o.batches.map encBatch).length = o.batches.length := List.length_map ..
  have hbb := may_bounds hb
  have hne : b.recs ≠ [] := fun e => by rw [e] at hbb; simp at hbb
  have hw : IntKind.i64.wrap (((o.batches.map encBatch).length : Int) - 1) = ((o.batches.length - 1 : Nat) : Int) := by rw [hlm, wrap64 (by omega) (by omega)]; omega
  refine ct0 progOk Tryz.func159 rfl false rfl rfl ?_
  repeat' (first | refine w_stepZ progOk rfl rfl rfl rfl rfl ?_ | refine w_step progOk rfl rfl rfl ?_ | refine w_nil ?_ | refine w_seq ?_ | refine w_reg progOk rfl rfl ?_ | (refine w_gTP rfl rfl rfl rfl rfl (ht := fun h => ?_) (hf := fun h => ?_) <;> try exact prn) | (refine w_gFP rfl rfl rfl rfl rfl (ht := fun h => ?_) (hf := fun h => ?_) <;> try exact prn) | refine w_guardU rfl rfl rfl rfl rfl ?_ | (refine w_condP rfl (ht := fun h => ?_) (hf := fun h => ?_) <;> try exact prn) | refine w_block ?_ | refine w_skip ?_ | refine w_exit ?_ | refine w_ret ?_ | refine w_index progOk rfl rfl rfl rfl rfl rfl rfl (map_get (by assumption)) rfl ?_ | refine w_indexE progOk rfl rfl rfl rfl rfl rfl rfl (by assumption) (map_get (by assumption)) rfl ?_ | refine w_appNil progOk rfl rfl rfl rfl rfl rfl rfl rfl rfl rfl rfl rfl rfl (by simp [chunk]; omega) ?_ | refine w_appRow progOk rfl rfl rfl rfl rfl rfl rfl rfl rfl rfl rfl rfl rfl rfl (by simp [chunk]; omega) ?_ | refine s_step rfl rfl rfl rfl ?_ | refine s_nil ?_ | (refine s_gTP rfl rfl rfl rfl rfl (ht := fun h => ?_) (hf := fun h => ?_) <;> try exact prn) | (refine s_gFP rfl rfl rfl rfl rfl (ht := fun h => ?_) (hf := fun h => ?_) <;> try exact prn) | refine s_guardU rfl rfl rfl rfl rfl ?_ | refine s_index rfl rfl rfl rfl rfl rfl rfl (map_get (by assumption)) rfl ?_ | refine w_call progOk rfl rfl rfl rfl rfl rfl rfl (cloneRec_ok b.recs hne (by omega)) rfl rfl ?_ | refine w_call progOk rfl rfl rfl rfl rfl rfl rfl (cbehind_ok o h1 h2 hm) rfl rfl ?_ | fail)
  · have e : i + 1 = o.batches.length := by rw [hw] at h; omega
    refine w_fin rfl ?_
    simp only [copyAt, e, if_true]
    repeat' (first | exact Sub.refl _ | exact sub_slNil | exact sub_slice | exact trivial | refine sub_agg ?_ | refine sub_tuple ?_ | refine And.intro ?_ ?_)
  · have e : ¬ i + 1 = o.batches.length := by rw [hw] at h; omega
    refine w_fin rfl ?_
    simp only [copyAt, e, if_false]
    repeat' (first | exact Sub.refl _ | exact sub_slNil | exact sub_slice | exact trivial | refine sub_agg ?_ | refine sub_tuple ?_ | refine And.intro ?_ ?_)

theorem made_ok (o : Opn) (h1 : 1 ≤ o.batches.length) (h2 : o.batches.length ≤ 8) (hm : ∀ b ∈ o.batches, mayBatch b = true) :
    Ct Tryz.prog 158 [.t (.slice .any 5 (o.batches.map encBatch)), .t (.func (.func 159) [] [.ptr (encOpn o)])] [] (.t (.slice .any 18 ((copiesOf o).map encEntry))) [] := by
  have hlm : (o.batches.map encBatch).length = o.batches.length := List.length_map ..
  refine ct0 progOk Tryz.func158 rfl false rfl rfl ?_
  have hcn : (((o.batches.map encBatch).length : Nat) : Int) = ((o.batches.length : Nat) : Int) := by rw [hlm]
  repeat' (first | refine w_stepZ progOk rfl rfl rfl rfl rfl ?_ | refine w_step progOk rfl rfl rfl ?_ | refine w_nil ?_ | refine w_seq ?_ | refine w_reg progOk rfl rfl ?_ | (refine w_gTP rfl rfl rfl rfl rfl (ht := fun h => ?_) (hf := fun h => ?_) <;> try exact prn) | (refine w_gFP rfl rfl rfl rfl rfl (ht := fun h => ?_) (hf := fun h => ?_) <;> try exact prn) | refine w_guardU rfl rfl rfl rfl rfl ?_ | (refine w_condP rfl (ht := fun h => ?_) (hf := fun h => ?_) <;> try exact prn) | refine w_block ?_ | refine w_skip ?_ | refine w_exit ?_ | refine w_ret ?_ | refine w_index progOk rfl rfl rfl rfl rfl rfl rfl (map_get (by assumption)) rfl ?_ | refine w_indexE progOk rfl rfl rfl rfl rfl rfl rfl (by assumption) (map_get (by assumption)) rfl ?_ | refine w_appNil progOk rfl rfl rfl rfl rfl rfl rfl rfl rfl rfl rfl rfl rfl (by simp [chunk]; omega) ?_ | refine w_appRow progOk rfl rfl rfl rfl rfl rfl rfl rfl rfl rfl rfl rfl rfl rfl (by simp [chunk]; omega) ?_ | refine s_step rfl rfl rfl rfl ?_ | refine s_nil ?_ | (refine s_gTP rfl rfl rfl rfl rfl (ht := fun h => ?_) (hf := fun h => ?_) <;> try exact prn) | (refine s_gFP rfl rfl rfl rfl rfl (ht := fun h => ?_) (hf := fun h => ?_) <;> try exact prn) | refine s_guardU rfl rfl rfl rfl rfl ?_ | refine s_index rfl rfl rfl rfl rfl rfl rfl (map_get (by assumption)) rfl ?_ | refine w_make progOk rfl rfl rfl rfl rfl rfl rfl (l := 0) rfl hcn rfl rfl (by omega) (by omega) ?_ | fail)
  refine w_loop (ι := Nat) (fun i => i ≤ o.batches.length) (fun i => [(1, .t (.func (.func 159) [] [.ptr (encOpn o)])), (5, .row 20 18 0 (((o.batches.take i).mapIdx (copyAt o)).map encEntry).length), (11, .t (.slice .any 5 (o.batches.map encBatch))), (12, .t (.int .i64 o.batches.length)), (13, .t (.int .i64 i))]) (fun i => [(20, .grow 18 (((o.batches.take i).mapIdx (copyAt o)).map encEntry))]) (fun i => o.batches.length - i) 0 (by simp) ?_ ?_
  · exact at_of [] (sub_eq rfl rfl (sub_eq rfl rfl (sub_eq rfl rfl (sub_eq rfl (by rw [hlm]) (sub_eq rfl rfl sub_nil))))) rfl
  rintro i hi
  by_cases hlt : i < o.batches.length
  · have hr : o.batches[i]? = some o.batches[i] := List.getElem?_eq_getElem hlt
    have hb := hm o.batches[i] (List.getElem_mem hlt)
    generalize o.batches[i] = r at hr hb
    have ht : (o.batches.take (i + 1)).mapIdx (copyAt o) = (o.batches.take i).mapIdx (copyAt o) ++ [copyAt o i r] := by
      rw [take_succ hr, List.mapIdx_append]; simp; congr 1; omega
    repeat' (first | refine w_stepZ progOk rfl rfl rfl rfl rfl ?_ | refine w_step progOk rfl rfl rfl ?_ | refine w_nil ?_ | refine w_seq ?_ | refine w_reg progOk rfl rfl ?_ | (refine w_gTP rfl rfl rfl rfl rfl (ht := fun h => ?_) (hf := fun h => ?_) <;> try exact prn) | (refine w_gFP rfl rfl rfl rfl rfl (ht := fun h => ?_) (hf := fun h => ?_) <;> try exact prn) | refine w_guardU rfl rfl rfl rfl rfl ?_ | (refine w_condP rfl (ht := fun h => ?_) (hf := fun h => ?_) <;> try exact prn) | refine w_block ?_ | refine w_skip ?_ | refine w_exit ?_ | refine w_ret ?_ | refine w_index progOk rfl rfl rfl rfl rfl rfl rfl (map_get (by assumption)) rfl ?_ | refine w_indexE progOk rfl rfl rfl rfl rfl rfl rfl (by assumption) (map_get (by assumption)) rfl ?_ | refine w_appNil progOk rfl rfl rfl rfl rfl rfl rfl rfl rfl rfl rfl rfl rfl (by simp [chunk]; omega) ?_ | refine w_appRow progOk rfl rfl rfl rfl rfl rfl rfl rfl rfl rfl rfl rfl rfl rfl (by simp [chunk]; omega) ?_ | refine s_step rfl rfl rfl rfl ?_ | refine s_nil ?_ | (refine s_gTP rfl rfl rfl rfl rfl (ht := fun h => ?_) (hf := fun h => ?_) <;> try exact prn) | (refine s_gFP rfl rfl rfl rfl rfl (ht := fun h => ?_) (hf := fun h => ?_) <;> try exact prn) | refine s_guardU rfl rfl rfl rfl rfl ?_ | refine s_index rfl rfl rfl rfl rfl rfl rfl (map_get (by assumption)) rfl ?_ | refine w_call progOk rfl rfl rfl rfl rfl rfl rfl (copy1_ok o i r h1 h2 hm hb hlt) rfl rfl ?_ | fail)
    refine w_next (i + 1) hlt (by omega) [7] (sub_eq rfl rfl (sub_eq rfl ?_ (sub_eq rfl rfl (sub_eq rfl rfl (sub_eq rfl ?_ sub_nil))))) ?_
    · rw [ht]; simp [chunk]; rfl
    · rw [wrap64 (by omega) (by omega)]; rfl
    · rw [ht]; simp only [List.map_append, List.map_cons, List.map_nil]; rfl
  · repeat' (first | refine w_stepZ progOk rfl rfl rfl rfl rfl ?_ | refine w_step progOk rfl rfl rfl ?_ | refine w_nil ?_ | refine w_seq ?_ | refine w_reg progOk rfl rfl ?_ | (refine w_gTP rfl rfl rfl rfl rfl (ht := fun h => ?_) (hf := fun h => ?_) <;> try exact prn) | (refine w_gFP rfl rfl rfl rfl rfl (ht := fun h => ?_) (hf := fun h => ?_) <;> try exact prn) | refine w_guardU rfl rfl rfl rfl rfl ?_ | (refine w_condP rfl (ht := fun h => ?_) (hf := fun h => ?_) <;> try exact prn) | refine w_block ?_ | refine w_skip ?_ | refine w_exit ?_ | refine w_ret ?_ | refine w_index progOk rfl rfl rfl rfl rfl rfl rfl (map_get (by assumption)) rfl ?_ | refine w_indexE progOk rfl rfl rfl rfl rfl rfl rfl (by assumption) (map_get (by assumption)) rfl ?_ | refine w_appNil progOk rfl rfl rfl rfl rfl rfl rfl rfl rfl rfl rfl rfl rfl (by simp [chunk]; omega) ?_ | refine w_appRow progOk rfl rfl rfl rfl rfl rfl rfl rfl rfl rfl rfl rfl rfl rfl (by simp [chunk]; omega) ?_ | refine s_step rfl rfl rfl rfl ?_ | refine s_nil ?_ | (refine s_gTP rfl rfl rfl rfl rfl (ht := fun h => ?_) (hf := fun h => ?_) <;> try exact prn) | (refine s_gFP rfl rfl rfl rfl rfl (ht := fun h => ?_) (hf := fun h => ?_) <;> try exact prn) | refine s_guardU rfl rfl rfl rfl rfl ?_ | refine s_index rfl rfl rfl rfl rfl rfl rfl (map_get (by assumption)) rfl ?_ | fail)
    refine w_fin rfl ?_
    rw [List.take_of_length_le (by omega)]
    refine Sub.of_eq ?_
    simp [frzA, copiesOf]
    exact List.take_of_length_le (by simp)

theorem firstSeq_get : ∀ {l : List Batch} {b : Batch}, l[0]? = some b → firstSeq l = b.seq
  | [], b, h => by simp at h
  | a :: r, b, h => by simp at h; subst h; rfl

theorem ccheck_ok (o : Opn) (h : copyOk o = true) : Ct Tryz.prog 156 [.agg (liftT (encOpn o))] [] (.t .nilIface) [] := by
  have hlm : (o.batches.map encBatch).length = o.batches.length := List.length_map ..
  simp only [copyOk, Bool.and_eq_true, decide_eq_true_eq] at h
  obtain ⟨⟨h1, h2⟩, hch⟩ := h
  have hr0 : o.batches[0]? = some (o.batches[0]'(by omega)) := List.getElem?_eq_getElem _
  have hf := firstSeq_get hr0
  rw [hf] at hch
  generalize o.batches[0]'(by omega) = b0' at hr0 hch
  refine ct0 progOk Tryz.func156 rfl false rfl rfl ?_
  repeat' (first | refine w_stepZ progOk rfl rfl rfl rfl rfl ?_ | refine w_step progOk rfl rfl rfl ?_ | refine w_nil ?_ | refine w_seq ?_ | refine w_reg progOk rfl rfl ?_ | (refine w_gTP rfl rfl rfl rfl rfl (ht := fun h => ?_) (hf := fun h => ?_) <;> try exact prn) | (refine w_gFP rfl rfl rfl rfl rfl (ht := fun h => ?_) (hf := fun h => ?_) <;> try exact prn) | refine w_guardU rfl rfl rfl rfl rfl ?_ | (refine w_condP rfl (ht := fun h => ?_) (hf := fun h => ?_) <;> try exact prn) | refine w_block ?_ | refine w_skip ?_ | refine w_exit ?_ | refine w_ret ?_ | refine w_index progOk rfl rfl rfl rfl rfl rfl rfl (map_get (by assumption)) rfl ?_ | refine w_indexE progOk rfl rfl rfl rfl rfl rfl rfl (by assumption) (map_get (by assumption)) rfl ?_ | refine w_appNil progOk rfl rfl rfl rfl rfl rfl rfl rfl rfl rfl rfl rfl rfl (by simp [chunk]; omega) ?_ | refine w_appRow progOk rfl rfl rfl rfl rfl rfl rfl rfl rfl rfl rfl rfl rfl rfl (by simp [chunk]; omega) ?_ | refine s_step rfl rfl rfl rfl ?_ | refine s_nil ?_ | (refine s_gTP rfl rfl rfl rfl rfl (ht := fun h => ?_) (hf := fun h => ?_) <;> try exact prn) | (refine s_gFP rfl rfl rfl rfl rfl (ht := fun h => ?_) (hf := fun h => ?_) <;> try exact prn) | refine s_guardU rfl rfl rfl rfl rfl ?_ | refine s_index rfl rfl rfl rfl rfl rfl rfl (map_get (by assumption)) rfl ?_ | refine w_index (kc := 0) progOk rfl rfl rfl rfl rfl rfl rfl (map_get hr0) rfl ?_ | fail)
  refine w_loop (ι := Nat × Int) (fun p => p.1 ≤ o.batches.length ∧ copyChain o.pid o.epoch p.2 (o.batches.drop p.1) = true) (fun p => [(1, .ref 2 0), (3, .t (.int .i64 p.2)), (25, .t (.slice .any 5 (o.batches.map encBatch))), (26, .t (.int .i64 o.batches.length)), (27, .t (.int .i64 p.1))]) (fun _ => [(2, .cells (liftT (encOpn o)))]) (fun p => o.batches.length - p.1) (0, b0'.seq) ⟨by simp, hch⟩ ?_ ?_
  · exact at_of [] (sub_eq rfl rfl (sub_eq rfl rfl (sub_eq rfl rfl (sub_eq rfl (by rw [hlm]) (sub_eq rfl rfl sub_nil))))) rfl
  rintro ⟨i, next⟩ ⟨hi, hc⟩
  simp only at hi hc
  by_cases hlt : i < o.batches.length
  · have hr : o.batches[i]? = some o.batches[i] := List.getElem?_eq_getElem hlt
    generalize o.batches[i] = r at hr
    rw [drop_cons hr] at hc
    simp only [copyChain, Bool.and_eq_true, decide_eq_true_eq] at hc
    obtain ⟨⟨⟨⟨⟨c1, c2⟩, c3⟩, c4⟩, c5⟩, c6⟩ := hc
    have hbb := may_bounds c1
    have cm : Ct Tryz.prog 37 [.agg (liftT (encBatch r))] [] (.t (.bool true)) [] := c1 ▸ rmay_ok r (by omega)
    repeat' (first | refine w_stepZ progOk rfl rfl rfl rfl rfl ?_ | refine w_step progOk rfl rfl rfl ?_ | refine w_nil ?_ | refine w_seq ?_ | refine w_reg progOk rfl rfl ?_ | (refine w_gTP rfl rfl rfl rfl rfl (ht := fun h => ?_) (hf := fun h => ?_) <;> try exact prn) | (refine w_gFP rfl rfl rfl rfl rfl (ht := fun h => ?_) (hf := fun h => ?_) <;> try exact prn) | refine w_guardU rfl rfl rfl rfl rfl ?_ | (refine w_condP rfl (ht := fun h => ?_) (hf := fun h => ?_) <;> try exact prn) | refine w_block ?_ | refine w_skip ?_ | refine w_exit ?_ | refine w_ret ?_ | refine w_index progOk rfl rfl rfl rfl rfl rfl rfl (map_get (by assumption)) rfl ?_ | refine w_indexE progOk rfl rfl rfl rfl rfl rfl rfl (by assumption) (map_get (by assumption)) rfl ?_ | refine w_appNil progOk rfl rfl rfl rfl rfl rfl rfl rfl rfl rfl rfl rfl rfl (by simp [chunk]; omega) ?_ | refine w_appRow progOk rfl rfl rfl rfl rfl rfl rfl rfl rfl rfl rfl rfl rfl rfl (by simp [chunk]; omega) ?_ | refine s_step rfl rfl rfl rfl ?_ | refine s_nil ?_ | (refine s_gTP rfl rfl rfl rfl rfl (ht := fun h => ?_) (hf := fun h => ?_) <;> try exact prn) | (refine s_gFP rfl rfl rfl rfl rfl (ht := fun h => ?_) (hf := fun h => ?_) <;> try exact prn) | refine s_guardU rfl rfl rfl rfl rfl ?_ | refine s_index rfl rfl rfl rfl rfl rfl rfl (map_get (by assumption)) rfl ?_ | refine w_call progOk rfl rfl rfl rfl rfl rfl rfl (cm) rfl rfl ?_ | refine w_call progOk rfl rfl rfl rfl rfl rfl rfl (rbehind_ok r c1) rfl rfl ?_ | fail)
    all_goals try (exfalso; simp_all; done)
    refine w_next (i + 1, behindB r) ⟨hlt, c6⟩ (by simp; omega) [5] (sub_eq rfl rfl (sub_eq rfl rfl (sub_eq rfl rfl (sub_eq rfl rfl (sub_eq rfl ?_ sub_nil))))) rfl
    rw [wrap64 (by omega) (by omega)]; rfl
  · repeat' (first | refine w_stepZ progOk rfl rfl rfl rfl rfl ?_ | refine w_step progOk rfl rfl rfl ?_ | refine w_nil ?_ | refine w_seq ?_ | refine w_reg progOk rfl rfl ?_ | (refine w_gTP rfl rfl rfl rfl rfl (ht := fun h => ?_) (hf := fun h => ?_) <;> try exact prn) | (refine w_gFP rfl rfl rfl rfl rfl (ht := fun h => ?_) (hf := fun h => ?_) <;> try exact prn) | refine w_guardU rfl rfl rfl rfl rfl ?_ | (refine w_condP rfl (ht := fun h => ?_) (hf := fun h => ?_) <;> try exact prn) | refine w_block ?_ | refine w_skip ?_ | refine w_exit ?_ | refine w_ret ?_ | refine w_index progOk rfl rfl rfl rfl rfl rfl rfl (map_get (by assumption)) rfl ?_ | refine w_indexE progOk rfl rfl rfl rfl rfl rfl rfl (by assumption) (map_get (by assumption)) rfl ?_ | refine w_appNil progOk rfl rfl rfl rfl rfl rfl rfl rfl rfl rfl rfl rfl rfl (by simp [chunk]; omega) ?_ | refine w_appRow progOk rfl rfl rfl rfl rfl rfl rfl rfl rfl rfl rfl rfl rfl rfl (by simp [chunk]; omega) ?_ | refine s_step rfl rfl rfl rfl ?_ | refine s_nil ?_ | (refine s_gTP rfl rfl rfl rfl rfl (ht := fun h => ?_) (hf := fun h => ?_) <;> try exact prn) | (refine s_gFP rfl rfl rfl rfl rfl (ht := fun h => ?_) (hf := fun h => ?_) <;> try exact prn) | refine s_guardU rfl rfl rfl rfl rfl ?_ | refine s_index rfl rfl rfl rfl rfl rfl rfl (map_get (by assumption)) rfl ?_ | fail)
    exact w_fin rfl (Sub.of_eq rfl)

theorem chain_may {pid epoch : Int} : ∀ {l : List Batch} {next : Int}, copyChain pid epoch next l = true → ∀ b ∈ l, mayBatch b = true
  | [], _, _, b, hb => by simp at hb
  | a :: r, next, h, b, hb => by
    simp only [copyChain, Bool.and_eq_true] at h
    simp only [List.mem_cons] at hb
    rcases hb with rfl | hb
    · exact h.1.1.1.1.1
    · exact chain_may h.2 b hb

theorem copies_ok (o : Opn) (h : copyOk o = true) : Ct Tryz.prog 96 [.agg (liftT (encOpn o))] [] (.tuple [.t (.slice .any 18 ((copiesOf o).map encEntry)), .t (.int .i64 0)]) [] := by
  have h' := h
  simp only [copyOk, Bool.and_eq_true, decide_eq_true_eq] at h'
  obtain ⟨⟨h1, h2⟩, hch⟩ := h'
  refine ct0 progOk Tryz.func96 rfl false rfl rfl ?_
  refine w_seq ?_
  refine w_reg progOk rfl rfl ?_
  repeat' (first | refine w_stepZ progOk rfl rfl rfl rfl rfl ?_ | refine w_step progOk rfl rfl rfl ?_ | refine w_nil ?_ | (refine w_gTP rfl rfl rfl rfl rfl (ht := fun h => ?_) (hf := fun h => ?_) <;> try exact prn) | (refine w_gFP rfl rfl rfl rfl rfl (ht := fun h => ?_) (hf := fun h => ?_) <;> try exact prn) | refine w_guardU rfl rfl rfl rfl rfl ?_ | refine w_index progOk rfl rfl rfl rfl rfl rfl rfl (map_get (by assumption)) rfl ?_ | refine w_indexE progOk rfl rfl rfl rfl rfl rfl rfl (by assumption) (map_get (by assumption)) rfl ?_ | refine w_appNil progOk rfl rfl rfl rfl rfl rfl rfl rfl rfl rfl rfl rfl rfl (by simp [chunk]; omega) ?_ | refine w_appRow progOk rfl rfl rfl rfl rfl rfl rfl rfl rfl rfl rfl rfl rfl rfl (by simp [chunk]; omega) ?_ | refine s_step rfl rfl rfl rfl ?_ | refine s_nil ?_ | (refine s_gTP rfl rfl rfl rfl rfl (ht := fun h => ?_) (hf := fun h => ?_) <;> try exact prn) | (refine s_gFP rfl rfl rfl rfl rfl (ht := fun h => ?_) (hf := fun h => ?_) <;> try exact prn) | refine s_guardU rfl rfl rfl rfl rfl ?_ | refine s_index rfl rfl rfl rfl rfl rfl rfl (map_get (by assumption)) rfl ?_ | fail)
  refine Tr.freezeBox (cs := encOpn o) 1 2 rfl rfl rfl rfl ?_
  repeat' (first | refine w_stepZ progOk rfl rfl rfl rfl rfl ?_ | refine w_step progOk rfl rfl rfl ?_ | refine w_nil ?_ | refine w_seq ?_ | refine w_reg progOk rfl rfl ?_ | (refine w_gTP rfl rfl rfl rfl rfl (ht := fun h => ?_) (hf := fun h => ?_) <;> try exact prn) | (refine w_gFP rfl rfl rfl rfl rfl (ht := fun h => ?_) (hf := fun h => ?_) <;> try exact prn) | refine w_guardU rfl rfl rfl rfl rfl ?_ | (refine w_condP rfl (ht := fun h => ?_) (hf := fun h => ?_) <;> try exact prn) | refine w_block ?_ | refine w_skip ?_ | refine w_exit ?_ | refine w_ret ?_ | refine w_index progOk rfl rfl rfl rfl rfl rfl rfl (map_get (by assumption)) rfl ?_ | refine w_indexE progOk rfl rfl rfl rfl rfl rfl rfl (by assumption) (map_get (by assumption)) rfl ?_ | refine w_appNil progOk rfl rfl rfl rfl rfl rfl rfl rfl rfl rfl rfl rfl rfl (by simp [chunk]; omega) ?_ | refine w_appRow progOk rfl rfl rfl rfl rfl rfl rfl rfl rfl rfl rfl rfl rfl rfl (by simp [chunk]; omega) ?_ | refine s_step rfl rfl rfl rfl ?_ | refine s_nil ?_ | (refine s_gTP rfl rfl rfl rfl rfl (ht := fun h => ?_) (hf := fun h => ?_) <;> try exact prn) | (refine s_gFP rfl rfl rfl rfl rfl (ht := fun h => ?_) (hf := fun h => ?_) <;> try exact prn) | refine s_guardU rfl rfl rfl rfl rfl ?_ | refine s_index rfl rfl rfl rfl rfl rfl rfl (map_get (by assumption)) rfl ?_ | refine w_call progOk rfl rfl rfl rfl rfl rfl rfl (ccheck_ok o h) rfl rfl ?_ | refine w_call progOk rfl rfl rfl rfl rfl rfl rfl (made_ok o h1 h2 (chain_may hch)) rfl rfl ?_ | fail)
  exact w_fin rfl (Sub.of_eq rfl)

end Go.Proofs.YtpdmaenhenfofaaGreatDoor
