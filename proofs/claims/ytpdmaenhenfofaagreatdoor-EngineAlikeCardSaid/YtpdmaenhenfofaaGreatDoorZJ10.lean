/- Contracts and laws, joined: Qi, Qj, Qk, Ql, Qm, Qn. No condition beside those that each theorem names. -/
import Derived.Test.YtpdmaenhenfofaaGreatDoorZM10
import Derived.Test.YtpdmaenhenfofaaGreatDoorZJ9
import Derived.Test.YtpdmaenhenfofaaGreatDoorZJ7
set_option linter.unusedVariables false
set_option linter.unusedSimpArgs false
namespace Go.Proofs.YtpdmaenhenfofaaGreatDoor
open Go.Am
attribute [local irreducible] Decidable.decide
set_option maxRecDepth 100000
set_option maxHeartbeats 1000000
def rowOf (b : Batch) (off : Int) (i : Nat) (r : Rec) : Row := ⟨if off = -1 then -1 else off + i, b.pid, b.seq + i, r.key, r.value⟩
def rowsOf (b : Batch) (off : Int) : List Row := b.recs.mapIdx (rowOf b off)
theorem rows_take {b : Batch} {off : Int} {i : Nat} {r : Rec} (h : b.recs[i]? = some r) : (b.recs.take (i + 1)).mapIdx (rowOf b off) = (b.recs.take i).mapIdx (rowOf b off) ++ [rowOf b off i r] := by
  have hlt := (List.getElem?_eq_some_iff.1 h).1
  rw [take_succ h, List.mapIdx_append]; simp; congr 1; omega
theorem rrows_ok (b : Batch) (off : Int) (hb : mayBatch b = true) (h1 : -1 ≤ off) (h2 : off ≤ 2000000000) : Ct Tryz.prog 104 [.agg (liftT (encBatch b)), .t (.int .i64 off)] [] (.t (.slice .any 5 ((rowsOf b off).map encRow))) [] := by
  have hm := may_bounds hb
  have hlm : (b.recs.map encRec).length = b.recs.length := List.length_map ..
  have hcn : ((b.recs.map encRec).length : Int) = ((b.recs.length : Nat) : Int) := by rw [hlm]
  refine ct0 progOk Tryz.func104 rfl false rfl rfl ?_
  repeat' (first | refine w_step progOk rfl rfl rfl ?_ | refine w_nil ?_ | refine w_seq ?_ | refine w_reg progOk rfl rfl ?_ | refine w_block ?_ | refine w_make progOk rfl rfl rfl rfl rfl rfl rfl (l := 0) rfl hcn rfl rfl (by omega) (by omega) ?_ | fail)
  refine w_loop (ι := Nat) (fun i => i ≤ b.recs.length) (fun i => [(1, .t (.int .i64 off)), (2, .ref 4 0), (5, .row 24 5 0 (((b.recs.take i).mapIdx (rowOf b off)).map encRow).length), (15, .t (.int .i64 ((b.recs.map encRec).length : Int))), (16, .t (.int .i64 i))]) (fun i => [(24, .grow 5 (((b.recs.take i).mapIdx (rowOf b off)).map encRow)), (4, .cells (liftT (encBatch b)))]) (fun i => b.recs.length - i) 0 (by simp) ?_ ?_
  · exact at_of [] (sub_eq rfl rfl (sub_eq rfl rfl (sub_eq rfl rfl (sub_eq rfl rfl (sub_eq rfl rfl sub_nil))))) rfl
  rintro i hi
  by_cases hlt : i < b.recs.length
  · have hr : b.recs[i]? = some b.recs[i] := List.getElem?_eq_getElem hlt
    generalize b.recs[i] = r at hr
    have hw1 : IntKind.i64.wrap (b.seq + i) = b.seq + i := wrap64 (by omega) (by omega)
    have hw2 : IntKind.i64.wrap (off + i) = off + i := wrap64 (by omega) (by omega)
    repeat' (first | refine w_stepZ progOk rfl rfl rfl rfl rfl ?_ | refine w_step progOk rfl rfl rfl ?_ | refine w_nil ?_ | refine w_seq ?_ | refine w_reg progOk rfl rfl ?_ | (refine w_condP rfl (ht := fun h => ?_) (hf := fun h => ?_) <;> try exact prn) | refine w_block ?_ | refine w_skip ?_ | refine w_index progOk rfl rfl rfl rfl rfl rfl rfl (map_get (by assumption)) rfl ?_ | refine w_appRow progOk rfl rfl rfl rfl rfl rfl rfl rfl rfl rfl rfl rfl rfl rfl (by simp [chunk]; omega) ?_ | fail)
    all_goals refine w_next (i + 1) hlt (by omega) [7, 8] (sub_eq rfl rfl (sub_eq rfl rfl (sub_eq rfl ?_ (sub_eq rfl rfl (sub_eq rfl (by rw [wrap64 (by omega) (by omega)]; rfl) sub_nil))))) ?_
    all_goals rw [rows_take hr, List.map_append, rowOf]
    all_goals try rw [hw1]
    all_goals try rw [hw2]
    all_goals first | rw [if_neg h] | rw [if_pos (Classical.not_not.1 h)]
    all_goals try rfl
    all_goals try (rw [Classical.not_not.1 h]; rfl)
  · repeat' (first | refine w_step progOk rfl rfl rfl ?_ | refine w_nil ?_ | refine w_seq ?_ | refine w_reg progOk rfl rfl ?_ | (refine w_condP rfl (ht := fun h => ?_) (hf := fun h => ?_) <;> try exact prn) | refine w_exit ?_ | refine w_ret ?_ | fail)
    refine w_fin rfl (Sub.of_eq ?_)
    have ht : b.recs.take i = b.recs := List.take_of_length_le (by omega)
    rw [ht]
    simp [frzA, rowsOf]
    try exact List.take_of_length_le (by simp)
theorem enfind_ok (l : List Opn) (pid : Int) (hl : l.length ≤ 1000000) : Ct Tryz.prog 54 [.t (.slice .any 3 (l.map encOpn)), .t (.int .i64 pid)] [] (.tuple [.t (.int .i64 (idxOf (fun o => decide (o.pid = pid)) l)), .t (.bool (l.any (fun o => decide (o.pid = pid))))]) [] := by
  have hf : ∀ o : Opn, Ct Tryz.prog 103 (.agg (liftT (encOpn o)) :: liftT [.ptr [.int .i64 pid]]) [] (.t (.bool (decide (o.pid = pid)))) [] := fun o => by
    refine ct0 progOk Tryz.func103 rfl false rfl rfl ?_
    repeat' (first | refine w_step progOk rfl rfl rfl ?_ | refine w_nil ?_ | refine w_seq ?_ | refine w_reg progOk rfl rfl ?_ | refine w_ret ?_ | fail)
    exact w_fin rfl (Sub.refl _)
  have ci := indexOpn_ok 103 [.ptr [.int .i64 pid]] (fun o => decide (o.pid = pid)) l (by omega) hf rfl
  refine ct0 progOk Tryz.func54 rfl false rfl rfl ?_
  refine w_seq ?_
  refine w_reg progOk rfl rfl ?_
  repeat' (first | refine w_step progOk rfl rfl rfl ?_ | refine w_nil ?_ | fail)
  refine Tr.freezeBox (cs := [.int .i64 pid]) 3 6 rfl rfl rfl rfl ?_
  repeat' (first | refine w_step progOk rfl rfl rfl ?_ | refine w_nil ?_ | refine w_seq ?_ | refine w_reg progOk rfl rfl ?_ | refine w_ret ?_ | refine w_call progOk rfl rfl rfl rfl rfl rfl rfl (ci) rfl rfl ?_ | fail)
  refine w_fin rfl (Sub.of_eq ?_)
  have := idx_any (fun o : Opn => decide (o.pid = pid)) l
  rw [Bool.eq_iff_iff.2 ⟨fun h => this.1 (of_decide_eq_true h), fun h => decide_eq_true (this.2 h)⟩]
end Go.Proofs.YtpdmaenhenfofaaGreatDoor

namespace Go.Proofs.YtpdmaenhenfofaaGreatDoor
open Go.Am
attribute [local irreducible] Decidable.decide
set_option maxRecDepth 100000
set_option maxHeartbeats 1000000
theorem find_get {α : Type} {p : α → Bool} {l : List α} (h : l.any p = true) : ∃ (i : Nat) (x : α), l[i]? = some x ∧ idxOf p l = (i : Int) ∧ l.find? p = some x := by
  obtain ⟨i, x, hx, hi, hf, _⟩ := fst_get h
  refine ⟨i, x, hx, ?_, hf⟩
  unfold fstI at hi; unfold idxOf
  cases he : l.findIdx? p with
  | some j => rw [he] at hi; exact hi
  | none => rw [List.findIdx?_eq_none_iff] at he; rw [List.any_eq_true] at h; obtain ⟨x, hx, hp⟩ := h; have := he x hx; simp [hp] at this
def sumB (l : List Batch) : Nat := (l.map (fun b => b.recs.length)).sum
def sumO (l : List Opn) : Nat := (l.map (fun o => sumB o.batches)).sum
theorem sum_le {α : Type} {f : α → Nat} {c : Nat} : ∀ {l : List α}, (∀ x ∈ l, f x ≤ c) → (l.map f).sum ≤ c * l.length
  | [], _ => by simp
  | x :: r, h => by
    have h1 := h x (List.mem_cons_self ..)
    have h2 := sum_le (l := r) fun y hy => h y (List.mem_cons_of_mem _ hy)
    simp only [List.map_cons, List.sum_cons, List.length_cons, Nat.mul_add, Nat.mul_one]; omega
theorem sumB_le {o : Opn} (hs : smallO o) (j : Nat) : sumB (o.batches.take j) ≤ 1000000000000 := by
  have h1 := sum_le (f := fun b : Batch => b.recs.length) (c := 1000000) (l := o.batches.take j) fun b hb => hs.2 b (List.mem_of_mem_take hb)
  have h2 : (o.batches.take j).length ≤ o.batches.length := by rw [List.length_take]; omega
  have h3 := hs.1
  unfold sumB; omega
theorem sumO_le {l : List Opn} (hl : l.length ≤ 1000000) (hs : ∀ o ∈ l, smallO o) (j : Nat) : sumO (l.take j) ≤ 1000000000000000000 := by
  have h1 := sum_le (f := fun o : Opn => sumB o.batches) (c := 1000000000000) (l := l.take j) fun o ho => by
    have := sumB_le (hs o (List.mem_of_mem_take ho)) o.batches.length
    rwa [List.take_length] at this
  have h2 : (l.take j).length ≤ l.length := by rw [List.length_take]; omega
  unfold sumO; omega
theorem sumB_take {l : List Batch} {i : Nat} {b : Batch} (h : l[i]? = some b) : sumB (l.take (i + 1)) = sumB (l.take i) + b.recs.length := by
  rw [take_succ h]; simp [sumB]
theorem sumO_take {l : List Opn} {i : Nat} {o : Opn} (h : l[i]? = some o) : sumO (l.take (i + 1)) = sumO (l.take i) + sumB o.batches := by
  rw [take_succ h]; simp [sumO]
def endN (p : Part) (b : Batch) : Int := p.fin + b.recs.length + 8 + sumO p.opens
def refO (p : Part) (b : Batch) : Option (Bs × Int) := match p.opens.find? (fun o => decide (o.pid = b.pid)) with
  | none => none
  | some o => if b.txn = false then some ([97, 32, 98, 97, 116, 99, 104, 32, 98, 101, 115, 105, 100, 101, 32, 97, 32, 116, 114, 97, 110, 115, 97, 99, 116, 105, 111, 110], 180) else if o.epoch ≠ b.epoch then some ([116, 104, 101, 32, 101, 112, 111, 99, 104, 32, 111, 102, 32, 97, 32, 116, 114, 97, 110, 115, 97, 99, 116, 105, 111, 110], 100) else if 8 ≤ o.batches.length then some ([116, 104, 101, 32, 98, 97, 116, 99, 104, 101, 115, 32, 111, 102, 32, 97, 32, 116, 114, 97, 110, 115, 97, 99, 116, 105, 111, 110], 140) else none
def refT2 (p : Part) (b : Batch) : T := match refO p b with
  | some (s, n) => faultT 97 s n
  | none => if endN p b > 1048576 then faultT 97 [116, 104, 101, 32, 101, 110, 100] 102 else .nilIface
theorem refused_ok (p : Part) (b : Batch) (hs : smallPart p) (hf : -1000000000 ≤ p.fin ∧ p.fin ≤ 1000000000) (hb : b.recs.length ≤ 1000000) : Ct Tryz.prog 71 [.agg (liftT (encPart p)), .agg (liftT (encBatch b))] [] (.t (refT2 p b)) [] := by
  obtain ⟨hs1, hs2, hs3, hs4⟩ := hs
  have hlo : (p.opens.map encOpn).length = p.opens.length := List.length_map ..
  have hlr : (b.recs.map encRec).length = b.recs.length := List.length_map ..
  have ci := enfind_ok p.opens b.pid hs2
  refine ct0 progOk Tryz.func71 rfl false rfl rfl ?_
  have hcs : (p.opens.any (fun o => decide (o.pid = b.pid)) = false ∧ p.opens.find? (fun o => decide (o.pid = b.pid)) = none) ∨ ∃ (i : Nat) (o : Opn), p.opens.any (fun o => decide (o.pid = b.pid)) = true ∧ p.opens[i]? = some o ∧ idxOf (fun o => decide (o.pid = b.pid)) p.opens = (i : Int) ∧ p.opens.find? (fun o => decide (o.pid = b.pid)) = some o := by
    cases hh : p.opens.any (fun o => decide (o.pid = b.pid)) with
    | false => exact .inl ⟨rfl, by rw [List.find?_eq_none]; intro x hx; simpa using List.any_eq_false.1 hh x hx⟩
    | true => obtain ⟨i, x, h1, h2, h3⟩ := find_get hh; exact .inr ⟨i, x, rfl, h1, h2, h3⟩
  have hw0 : IntKind.i64.wrap (IntKind.i64.wrap (p.fin + ((b.recs.map encRec).length : Int)) + 8) = p.fin + b.recs.length + 8 := by
    rw [hlr, wrap64 (n := p.fin + b.recs.length) (by omega) (by omega), wrap64 (by omega) (by omega)]
  generalize idxOf (fun o : Opn => decide (o.pid = b.pid)) p.opens = k at ci hcs
  have hlE : endN p b = p.fin + b.recs.length + 8 + (sumO (p.opens.take p.opens.length) : Int) := by rw [List.take_length]; rfl
  repeat' (first | refine w_join (ι := Unit) (a := .seq _ (.seq _ (.cond (.tmp 21) _ _))) (fun _ => refO p b = none) (fun _ => [(2, .ref 4 0), (3, .ref 6 0)]) (fun _ => [(6, .cells (liftT (encBatch b))), (4, .cells (liftT (encPart p)))]) ?_ ?_ | refine w_step progOk rfl rfl rfl ?_ | refine w_nil ?_ | refine w_seq ?_ | refine w_reg progOk rfl rfl ?_ | (refine w_condP rfl (ht := fun h => ?_) (hf := fun h => ?_) <;> try exact prn) | refine w_skip ?_ | refine w_call progOk rfl rfl rfl rfl rfl rfl rfl (ci) rfl rfl ?_ | fail)
  · rcases hcs with ⟨h1, _⟩ | ⟨i, o, _, hx, rfl, hfd⟩
    · exfalso; simp_all
    have hlb : (o.batches.map encBatch).length = o.batches.length := List.length_map ..
    repeat' (first | refine w_stepZ progOk rfl rfl rfl rfl rfl ?_ | refine w_step progOk rfl rfl rfl ?_ | refine w_nil ?_ | refine w_seq ?_ | refine w_reg progOk rfl rfl ?_ | (refine w_condP rfl (ht := fun h => ?_) (hf := fun h => ?_) <;> try exact prn) | refine w_block ?_ | refine w_skip ?_ | refine w_ret ?_ | refine w_index progOk rfl rfl rfl rfl rfl rfl rfl (map_get (by assumption)) rfl ?_ | fail)
    · refine w_fin rfl (Sub.of_eq ?_); have : b.txn = false := by simp_all
      simp [refT2, refO, hfd, this]; rfl
    · refine w_fin rfl (Sub.of_eq ?_); simp_all [refT2, refO]; rfl
    · refine w_fin rfl (Sub.of_eq ?_); have h8 : 8 ≤ o.batches.length := by omega
      simp_all [refT2, refO]; rfl
    · refine ⟨(), ?_, at_of [7] (sub_eq rfl rfl (sub_eq rfl rfl sub_nil)) rfl⟩
      have h8 : ¬ 8 ≤ o.batches.length := by omega
      simp_all [refO]
  · refine ⟨(), ?_, at_of [] (sub_eq rfl rfl (sub_eq rfl rfl sub_nil)) rfl⟩
    rcases hcs with ⟨_, h1⟩ | ⟨i, o, h1, _⟩
    · simp [refO, h1]
    · exfalso; simp_all
  · rintro _ hno
    repeat' (first | refine w_step progOk rfl rfl rfl ?_ | refine w_nil ?_ | refine w_seq ?_ | refine w_reg progOk rfl rfl ?_ | refine w_block ?_ | fail)
    refine w_loop (ι := Nat) (fun i => i ≤ p.opens.length) (fun i => [(8, .t (.int .i64 (p.fin + b.recs.length + 8 + (sumO (p.opens.take i) : Int)))), (59, .t (.slice .any 3 (p.opens.map encOpn))), (60, .t (.int .i64 p.opens.length)), (61, .t (.int .i64 i))]) (fun _ => []) (fun i => p.opens.length - i) 0 (by simp) ?_ ?_
    · exact at_of [2, 3] (sub_eq rfl (by rw [hw0]; simp [sumO]; rfl) (sub_eq rfl rfl (sub_eq rfl (by rw [hlo]; rfl) (sub_eq rfl rfl sub_nil)))) rfl
    rintro i hi
    have hsi := sumO_le hs2 hs3 i
    by_cases hlt : i < p.opens.length
    · have hr : p.opens[i]? = some p.opens[i] := List.getElem?_eq_getElem hlt
      have hso := hs3 p.opens[i] (List.getElem_mem hlt)
      generalize p.opens[i] = o at hr hso
      have hsb := hso.1
      have hlb : (o.batches.map encBatch).length = o.batches.length := List.length_map ..
      repeat' (first | refine w_stepZ progOk rfl rfl rfl rfl rfl ?_ | refine w_step progOk rfl rfl rfl ?_ | refine w_nil ?_ | refine w_seq ?_ | refine w_reg progOk rfl rfl ?_ | (refine w_condP rfl (ht := fun h => ?_) (hf := fun h => ?_) <;> try exact prn) | refine w_block ?_ | refine w_skip ?_ | refine w_index progOk rfl rfl rfl rfl rfl rfl rfl (map_get (by assumption)) rfl ?_ | fail)
      refine w_loop (ι := Nat) (fun j => j ≤ o.batches.length) (fun j => [(8, .t (.int .i64 (p.fin + b.recs.length + 8 + (sumO (p.opens.take i) : Int) + (sumB (o.batches.take j) : Int)))), (59, .t (.slice .any 3 (p.opens.map encOpn))), (60, .t (.int .i64 p.opens.length)), (61, .t (.int .i64 i)), (66, .t (.slice .any 5 (o.batches.map encBatch))), (67, .t (.int .i64 o.batches.length)), (68, .t (.int .i64 j))]) (fun _ => []) (fun j => o.batches.length - j) 0 (by simp) ?_ ?_
      · exact at_of [10] (sub_eq rfl (by simp [sumB]; rfl) (sub_eq rfl rfl (sub_eq rfl rfl (sub_eq rfl rfl (sub_eq rfl rfl (sub_eq rfl (by rw [hlb]; rfl) (sub_eq rfl rfl sub_nil))))))) rfl
      rintro j hj
      have hsj := sumB_le hso j
      by_cases hlj : j < o.batches.length
      · have hrj : o.batches[j]? = some o.batches[j] := List.getElem?_eq_getElem hlj
        have hbj := hso.2 o.batches[j] (List.getElem_mem hlj)
        generalize o.batches[j] = c at hrj hbj
        have hlc : (c.recs.map encRec).length = c.recs.length := List.length_map ..
        repeat' (first | refine w_stepZ progOk rfl rfl rfl rfl rfl ?_ | refine w_step progOk rfl rfl rfl ?_ | refine w_nil ?_ | refine w_seq ?_ | refine w_reg progOk rfl rfl ?_ | (refine w_condP rfl (ht := fun h => ?_) (hf := fun h => ?_) <;> try exact prn) | refine w_block ?_ | refine w_skip ?_ | refine w_index progOk rfl rfl rfl rfl rfl rfl rfl (map_get (by assumption)) rfl ?_ | fail)
        refine w_next (j + 1) hlj (by omega) [12] (sub_eq rfl ?_ (sub_eq rfl rfl (sub_eq rfl rfl (sub_eq rfl rfl (sub_eq rfl rfl (sub_eq rfl rfl (sub_eq rfl (by rw [wrap64 (by omega) (by omega)]; rfl) sub_nil))))))) rfl
        rw [sumB_take hrj, hlc, wrap64 (by omega) (by omega), Int.natCast_add, ← Int.add_assoc]
        try rfl
      · repeat' (first | refine w_step progOk rfl rfl rfl ?_ | refine w_nil ?_ | refine w_seq ?_ | refine w_reg progOk rfl rfl ?_ | (refine w_condP rfl (ht := fun h => ?_) (hf := fun h => ?_) <;> try exact prn) | refine w_exit ?_ | fail)
        have hje : o.batches.take j = o.batches := List.take_of_length_le (by omega)
        refine w_next (i + 1) hlt (by omega) [] (sub_eq rfl ?_ (sub_eq rfl rfl (sub_eq rfl rfl (sub_eq rfl (by rw [wrap64 (by omega) (by omega)]; rfl) sub_nil)))) rfl
        rw [hje, sumO_take hr, Int.natCast_add, ← Int.add_assoc]
        try rfl
    · have hie : i = p.opens.length := by omega
      subst hie
      repeat' (first | refine w_step progOk rfl rfl rfl ?_ | refine w_nil ?_ | refine w_seq ?_ | refine w_reg progOk rfl rfl ?_ | (refine w_condP rfl (ht := fun h => ?_) (hf := fun h => ?_) <;> try exact prn) | refine w_skip ?_ | refine w_exit ?_ | refine w_ret ?_ | fail)
      · refine w_fin rfl (Sub.of_eq ?_); rw [← hlE] at *; simp [refT2, hno, *]; rfl
      · refine w_fin rfl (Sub.of_eq ?_); rw [← hlE] at *; simp [refT2, hno, *]
end Go.Proofs.YtpdmaenhenfofaaGreatDoor

namespace Go.Proofs.YtpdmaenhenfofaaGreatDoor
open Go.Am
attribute [local irreducible] Decidable.decide
set_option maxRecDepth 100000
set_option maxHeartbeats 1000000
def partB (s f : Int) (rs : List Row) (os : List Opn) (ps : List Prod) : St := [(3, .grow 5 (rs.map encRow)), (1, .cells [.t (.int .i64 s), .t (.int .i64 f), .row 3 5 0 (rs.map encRow).length, .t (.slice .any 3 (os.map encOpn)), .t (.slice .any 4 (ps.map encProd))])]
theorem erows_ok (s f : Int) (rs : List Row) (os : List Opn) (ps : List Prod) (b : Batch) (hb : mayBatch b = true) (h1 : 0 ≤ f) (h2 : f ≤ 1000000000) (h3 : rs.length ≤ 1000000) :
    Ct Tryz.prog 55 [.ref 1 0, .agg (liftT (encBatch b))] (partB s f rs os ps) (.tuple []) (partB s (f + b.recs.length) (rs ++ rowsOf b f) os ps) := by
  have hm := may_bounds hb
  have hlm : (b.recs.map encRec).length = b.recs.length := List.length_map ..
  have hlr : (rowsOf b f).length = b.recs.length := by simp [rowsOf]
  have hlr2 : ((rowsOf b f).map encRow).length = b.recs.length := by simp [rowsOf]
  have hlr3 : (rs.map encRow).length = rs.length := List.length_map ..
  have cr := rrows_ok b f hb (by omega) (by omega)
  refine ct1 progOk Tryz.func55 rfl rfl ?_
  repeat' (first | refine w_regR (id := 1) progOk [0] 11 (by kernel_rfl) rfl rfl rfl rfl rfl rfl (by rintro ch e s ⟨hx, _⟩; rcases hx with hx | hx <;> cases hx) ?_ | refine w_stepZ progOk rfl rfl rfl rfl rfl ?_ | refine w_step progOk rfl rfl rfl ?_ | refine w_nil ?_ | refine w_seq ?_ | refine w_reg progOk rfl rfl ?_ | refine w_appRow progOk rfl rfl rfl rfl rfl rfl rfl rfl rfl rfl rfl rfl rfl rfl (by simp [chunk]; omega) ?_ | refine w_regD (id := 2) (m := 7) progOk (by kernel_rfl) rfl rfl rfl rfl ?_ | refine s_step rfl rfl rfl rfl ?_ | refine s_call rfl rfl rfl rfl rfl (cr) rfl rfl ?_ | fail)
  refine w_fin1N [3] rfl rfl ?_ (Sub.refl _)
  have hw : IntKind.i64.wrap (f + ((b.recs.map encRec).length : Int)) = f + b.recs.length := by rw [hlm, wrap64 (by omega) (by omega)]
  rw [hw]
  simp only [partB, List.map_append]; rfl
end Go.Proofs.YtpdmaenhenfofaaGreatDoor

namespace Go.Proofs.YtpdmaenhenfofaaGreatDoor
open Go.Am
attribute [local irreducible] Decidable.decide
set_option maxRecDepth 100000
set_option maxHeartbeats 1000000
theorem Tr.subCell {P : Program} {n : Nat} {env : Env} {σ : St} {K : Exit → Env → St → Prop} {code : Code} (b off : Nat) {cs : List AV} {x y : AV} (hb : Am.look σ b = some (.cells cs)) (hc : cs[off]? = some x) (hs : Sub x y)
    (h : Tr P n code env (upd σ b (.cells (cs.set off y))) K) : Tr P n code env σ K := by
  intro F hF hrf w g a hg
  have hi := hg.inv
  obtain ⟨blk, vs, e, q1, q2, q3, q4, q5⟩ := hi.ok b _ hb
  have hi1 : Inv w g (upd σ b (.cells (cs.set off y))) := by
    refine ⟨fun c C hC => ?_, fun c => ?_, hi.inj, hi.lt, fun c hc' => ⟨(hi.bx c hc').1, ?_⟩, hi.dis, hi.im, hi.lo, hi.sx.upd b (fun L h => by cases h)⟩
    · rw [look_upd] at hC
      split at hC
      · rename_i e1; subst e1; cases hC
        refine ⟨blk, vs, e, q1, q2, q3, by simp [q4], fun i v x' hv hx => ?_⟩
        rw [List.getElem?_set] at hx
        split at hx
        · rename_i e2
          split at hx
          · cases hx
            rw [← e2] at hv
            exact hs _ _ _ (q5 off v _ hv hc)
          · cases hx
        · exact q5 i v x' hv hx
      · exact hi.ok c C hC
    · rw [look_upd]
      by_cases e1 : b = c
      · subst e1; simp [q1]
      · simp only [if_neg e1]; exact hi.dom c
    · rw [look_upd]
      split
      · exact ⟨_, rfl⟩
      · exact (hi.bx c hc').2
  exact h F hF hrf w g a ⟨hg.env, hi1, hg.defers, hg.size⟩
section
variable {P : Program} {c : Conf} {n : Nat} {ops : Array Oper} {rest : List Oper} {env : Env} {σ : St} {o : Oper} {k : Env → St → Prop} {news : List Nat}
end
theorem take_all0 {α : Type} (es : List α) : (es.drop 0).take (es.length - 0) = es := by simp
def keptS (l : List Prod) (b : Batch) : List Seen := if (findP l b.pid).epoch ≠ b.epoch then [] else (findP l b.pid).seen
def winS (s : List Seen) : List Seen := s.drop (s.length - 3)
theorem drop_all {α : Type} {es es' : List α} (m : Nat) (h : es.drop m = es') : (es.drop m).take (es.length - m) = es' := by
  rw [← h]; exact List.take_of_length_le (by simp)
theorem win_map (s : List Seen) (es : List (List T)) (h : es = s.map encSeen) : es.drop (es.length - 3) = (winS s).map encSeen := by
  subst h; simp [winS, List.map_drop]
def takenP (l : List Prod) (b : Batch) (base : Int) : Prod := ⟨b.pid, b.epoch, behindB b, winS (keptS l b ++ [⟨b.seq, b.recs.length, base⟩])⟩
def tkErr (l : List Prod) (b : Batch) (base : Int) : Int := if base < -1 ∨ base > 1048576 then 2 else if ckErr l b ≠ 0 then ckErr l b else if ckIs l b = true then 101 else 0
def tkRes (l : List Prod) (b : Batch) (base : Int) : List Prod := if tkErr l b base = 0 then setS l (takenP l b base) else []
theorem findP_small {l : List Prod} (hl : smallPs l) (pid : Int) : (findP l pid).seen.length ≤ 1000000 := by
  unfold findP
  cases h : l.find? (fun p => decide (p.pid = pid)) with
  | none => simp [prodZ]
  | some q => exact hl.2 q (List.mem_of_find?_eq_some h)
theorem take_ok (l : List Prod) (b : Batch) (base : Int) (hl : smallPs l) (hb : b.recs.length ≤ 1000000) :
    Ct Tryz.prog 74 [.t (.slice .any 4 (l.map encProd)), .agg (liftT (encBatch b)), .t (.int .i64 base)] [] (.tuple [.t (.slice .any 4 ((tkRes l b base).map encProd)), .t (.int .i64 (tkErr l b base))]) [] := by
  have ck := scheck_ok l b hl (by omega)
  have cf := findP_ok l b.pid hl
  have hks : (findP l b.pid).seen.length ≤ 1000000 := findP_small hl b.pid
  have hwin : ∀ es : List (List T), es.length ≤ 2000000 → maxI 0 (IntKind.i64.wrap ((es.length : Int) - 3)) = ((es.length - 3 : Nat) : Int) := fun es h => by
    rw [wrap64 (by omega) (by omega)]; unfold maxI; split <;> omega
  have htk : (takenP l b base).seen.length ≤ 1000000 := by simp [takenP, winS]; omega
  have cs := set_ok l (takenP l b base) hl htk
  have hmay : ckErr l b = 0 → mayBatch b = true := fun h => by
    unfold ckErr at h
    split at h
    · rename_i h1; simp only [ckOk, Bool.and_eq_true] at h1; exact h1.2
    · cases h
  have hk1 : (findP l b.pid).epoch ≠ b.epoch → keptS l b = [] := fun h => by simp [keptS, h]
  have hk2 : (findP l b.pid).epoch = b.epoch → keptS l b = (findP l b.pid).seen := fun h => by simp [keptS, h]
  have bad : ∀ e, e ≠ 0 → tkErr l b base = e → Sub (.tuple [.t (.slice .nil 0 []), .t (.int .i64 e)]) (.tuple [.t (.slice .any 4 ((tkRes l b base).map encProd)), .t (.int .i64 (tkErr l b base))]) := fun e h1 h2 => by
    subst h2
    rw [show tkRes l b base = [] by simp [tkRes, h1]]
    exact sub_tuple ⟨sub_slNil, Sub.refl _, trivial⟩
  have good : tkErr l b base = 0 → Sub (.tuple [.t (.slice .any 4 ((setS l (takenP l b base)).map encProd)), .t (.int .i64 0)]) (.tuple [.t (.slice .any 4 ((tkRes l b base).map encProd)), .t (.int .i64 (tkErr l b base))]) := fun h => by
    simp only [tkRes, h, if_true]; exact Sub.refl _
  have e1 : base < -1 ∨ base > 1048576 → tkErr l b base = 2 := fun h => by simp [tkErr, h]
  have e2 : ¬ (base < -1 ∨ base > 1048576) → ckErr l b ≠ 0 → tkErr l b base = ckErr l b := fun h h' => by simp only [tkErr, if_neg h, if_pos h']
  have e3 : ¬ (base < -1 ∨ base > 1048576) → ckErr l b = 0 → ckIs l b = true → tkErr l b base = 101 := fun h h' h2 => by simp only [tkErr, if_neg h, h2, if_true]; simp [h']
  have e4 : ¬ (base < -1 ∨ base > 1048576) → ckErr l b = 0 → ¬ ckIs l b = true → tkErr l b base = 0 := fun h h' h2 => by simp only [tkErr, if_neg h, if_neg h2]; simp [h']
  refine ct0 progOk Tryz.func74 rfl false rfl rfl ?_
  repeat' (first | refine Tr.subCell 22 3 (x := .t (.slice .nil 0 [])) (y := .t (.slice .any 3 [])) rfl rfl sub_slNil ?_ | refine w_stepZ progOk rfl rfl rfl rfl rfl ?_ | refine w_step progOk rfl rfl rfl ?_ | refine w_nil ?_ | refine w_seq ?_ | refine w_reg progOk rfl rfl ?_ | (refine w_gFP rfl rfl rfl rfl rfl (ht := fun h => ?_) (hf := fun h => ?_) <;> try exact prn) | (refine w_condP rfl (ht := fun h => ?_) (hf := fun h => ?_) <;> try exact prn) | refine w_skip ?_ | refine w_ret ?_ | refine w_regD (id := 12) (m := 13) progOk (by kernel_rfl) rfl rfl rfl rfl ?_ | refine w_regD (id := 14) (m := 13) progOk (by kernel_rfl) rfl rfl rfl rfl ?_ | refine s_step rfl rfl rfl rfl ?_ | refine s_nil ?_ | refine w_call progOk rfl rfl rfl rfl rfl rfl rfl (ck) rfl rfl ?_ | refine w_call progOk rfl rfl rfl rfl rfl rfl rfl (cf) rfl rfl ?_ | refine s_slice (l := 0) rfl rfl rfl rfl rfl rfl (bnd_e rfl rfl) bnd_n (Nat.le_refl _) (Nat.zero_le _) (.inr ⟨rfl, rfl, bnd_e rfl rfl, rfl⟩) (take_all0 _) rfl ?_ | refine w_appFull progOk rfl rfl rfl rfl rfl rfl rfl rfl rfl rfl rfl rfl (by simp [chunk]; omega) ?_ | refine s_call rfl rfl rfl rfl rfl (rbehind_ok b (hmay (by omega))) rfl rfl ?_ | refine s_slice (es' := (winS (keptS l b ++ [⟨b.seq, b.recs.length, base⟩])).map encSeen) rfl rfl rfl rfl rfl rfl (bnd_e rfl rfl) (bnd_e rfl (hwin _ (by simp [chunk] <;> omega))) (Nat.le_refl _) (Nat.sub_le _ _) (.inr ⟨rfl, rfl, bnd_e rfl rfl, rfl⟩) (drop_all _ (win_map _ _ (by first | (rw [hk1 (by assumption)]; simp [chunk, encSeen] <;> rfl) | (rw [hk2 (by omega)]; simp [chunk, encSeen] <;> rfl)))) rfl ?_ | refine w_callZ progOk rfl rfl rfl rfl (cs) rfl rfl rfl ⟨Sub.refl _, (by refine sub_agg ?_; exact ⟨Sub.refl _, Sub.refl _, Sub.refl _, sub_slice, trivial⟩), trivial⟩ ?_ | fail)
  all_goals first
    | exact w_fin rfl (bad _ (by decide) (e1 (by omega)))
    | exact w_fin rfl (bad _ (by assumption) (e2 (by omega) (by assumption)))
    | exact w_fin rfl (bad _ (by decide) (e3 (by omega) (by omega) (by assumption)))
    | exact w_fin rfl (good (e4 (by omega) (by omega) (by assumption)))
end Go.Proofs.YtpdmaenhenfofaaGreatDoor

namespace Go.Proofs.YtpdmaenhenfofaaGreatDoor
open Go.Am
attribute [local irreducible] Decidable.decide
set_option maxRecDepth 100000
set_option maxHeartbeats 1000000
theorem ctT {P : Program} {c : Conf} (hp : ProgOk P c) (d : Nat) {f : Nat} {xs : List AV} {x : T} (h : (callV P c d f xs []).map (·.1) = some (.t x)) : Ct P f xs [] (.t x) [] := by
  cases hc : callV P c d f xs [] with
  | none => rw [hc] at h; cases h
  | some q =>
    obtain ⟨r, σ2⟩ := q
    rw [hc] at h
    simp at h
    subst h
    obtain ⟨e, s, hz⟩ := frzIn_free (r := .t x) (fun _ => rfl) σ2 [] σ2
    exact Ct.freeze (ctV hp d hc) hz rfl
def logN (e i : Int) : Bs := [if e = 0 then 105 else 98, UInt8.ofNat (48 + i.toNat)]
def sideN (i p : Int) : Bs := [98, UInt8.ofNat (48 + i.toNat), 46, UInt8.ofNat (48 + p.toNat)]
theorem log_ok (e i : Int) (he : e = 0 ∨ e = 1) (hi : i = 0 ∨ i = 1 ∨ i = 2) : Ct Tryz.prog 246 [.t (.int .i8 e), .t (.int .i64 i)] [] (.t (.str (logN e i))) [] := by
  rcases he with rfl | rfl <;> rcases hi with rfl | rfl | rfl <;> exact ctT progOk2 60 (by kernel_rfl)
theorem side_ok (i p : Int) (hi : i = 0 ∨ i = 1 ∨ i = 2) (hp : p = 1 ∨ p = 2 ∨ p = 3 ∨ p = 4 ∨ p = 5 ∨ p = 6 ∨ p = 7 ∨ p = 8) : Ct Tryz.prog 270 [.t (.int .i64 i), .t (.int .i64 p)] [] (.t (.str (sideN i p))) [] := by
  rcases hi with rfl | rfl | rfl <;> rcases hp with rfl | rfl | rfl | rfl | rfl | rfl | rfl | rfl <;> exact ctT progOk2 60 (by kernel_rfl)
end Go.Proofs.YtpdmaenhenfofaaGreatDoor

namespace Go.Proofs.YtpdmaenhenfofaaGreatDoor
open Go.Am
attribute [local irreducible] Decidable.decide
set_option maxRecDepth 100000
set_option maxHeartbeats 1000000
def encSpot (e i : Int) : List T := [.int .i8 e, .int .i64 i]
theorem spotLog_ok (e i : Int) (he : e = 0 ∨ e = 1) (hi : i = 0 ∨ i = 1 ∨ i = 2) : Ct Tryz.prog 245 [.agg (liftT (encSpot e i))] [] (.t (.str (logN e i))) [] := by
  refine ct0 progOk Tryz.func245 rfl false rfl rfl ?_
  repeat' (first | refine w_step progOk rfl rfl rfl ?_ | refine w_nil ?_ | refine w_seq ?_ | refine w_reg progOk rfl rfl ?_ | refine w_ret ?_ | refine w_call progOk rfl rfl rfl rfl rfl rfl rfl (log_ok e i he hi) rfl rfl ?_ | fail)
  exact w_fin rfl (Sub.refl _)
theorem placeI_ok (e i : Int) (b : Batch) (he : e = 0 ∨ e = 1) (hi : i = 0 ∨ i = 1 ∨ i = 2) : Ct Tryz.prog 264 [.t (.agg (encSpot e i)), .agg (liftT (encBatch b))] [] (.t (.str (logN e i))) [] := by
  refine ct0 progOk Tryz.func264 rfl false rfl rfl ?_
  repeat' (first | refine w_step progOk rfl rfl rfl ?_ | refine w_nil ?_ | refine w_seq ?_ | refine w_reg progOk rfl rfl ?_ | refine w_ret ?_ | refine w_call progOk rfl rfl rfl rfl rfl rfl rfl (spotLog_ok e i he hi) rfl rfl ?_ | fail)
  exact w_fin rfl (Sub.refl _)
def placeN (e i : Int) (b : Batch) : Bs := if e = 1 ∧ b.txn = true then sideN i b.pid else logN e i
theorem placeB_ok (i : Int) (b : Batch) (hi : i = 0 ∨ i = 1 ∨ i = 2) (hp : mayBatch b = true) : Ct Tryz.prog 268 [.t (.agg (encSpot 1 i)), .agg (liftT (encBatch b))] [] (.t (.str (placeN 1 i b))) [] := by
  have hpid : b.pid = 1 ∨ b.pid = 2 ∨ b.pid = 3 ∨ b.pid = 4 ∨ b.pid = 5 ∨ b.pid = 6 ∨ b.pid = 7 ∨ b.pid = 8 := by
    simp only [mayBatch, Bool.and_eq_true, decide_eq_true_eq] at hp; have hp1 := hp.1; unfold boundsB at hp1; omega
  refine ct0 progOk Tryz.func268 rfl false rfl rfl ?_
  repeat' (first | refine w_step progOk rfl rfl rfl ?_ | refine w_nil ?_ | refine w_seq ?_ | refine w_reg progOk rfl rfl ?_ | (refine w_condP rfl (ht := fun h => ?_) (hf := fun h => ?_) <;> try exact prn) | refine w_skip ?_ | refine w_ret ?_ | refine w_call progOk rfl rfl rfl rfl rfl rfl rfl (spotLog_ok 1 i (.inr rfl) hi) rfl rfl ?_ | refine w_call progOk rfl rfl rfl rfl rfl rfl rfl (side_ok i b.pid hi hpid) rfl rfl ?_ | fail)
  all_goals (refine w_fin rfl (Sub.of_eq ?_); simp_all [placeN])
/- the writer that is wanted -/
def ofW (e i : Int) (p : Part) : T := if (i < 0 ∨ 3 ≤ i) ∨ partOk p = false then .nilIface else if e = 0 then .iface 152 (.agg (encSpot e i)) else if e = 1 then .iface 153 (.agg (encSpot e i)) else .nilIface
def ofE (e i : Int) (p : Part) : T := if i < 0 ∨ 3 ≤ i then faultT 97 [97, 32, 112, 97, 114, 116, 105, 116, 105, 111, 110] 2 else if partOk p = false then enT p else if e = 0 ∨ e = 1 then .nilIface else faultT 97 [97, 110, 32, 101, 110, 103, 105, 110, 101] 2
theorem of_ok (e i : Int) (p : Part) (hs : smallPart p) : Ct Tryz.prog 36 [.t (.int .i8 e), .t (.int .i64 i), .agg (liftT (encPart p))] [] (.tuple [.t (ofW e i p), .t (ofE e i p)]) [] := by
  have cc := echeck_ok p hs
  refine ct0 progOk Tryz.func36 rfl false rfl rfl ?_
  cases hpk : partOk p with
  | false =>
    have he : enT p = faultT 97 (ckMsg p) 2 := by simp [enT, hpk]
    have hw : ofW e i p = .nilIface := by simp [ofW, hpk]
    have h2 : ¬ (i < 0 ∨ 3 ≤ i) → ofE e i p = faultT 97 (ckMsg p) 2 := fun hn => by simp only [ofE, if_neg hn, hpk, if_true, he]
    have h1 : (i < 0 ∨ 3 ≤ i) → ofE e i p = faultT 97 [97, 32, 112, 97, 114, 116, 105, 116, 105, 111, 110] 2 := fun hn => by simp only [ofE, if_pos hn]
    rw [he] at cc
    repeat' (first | refine w_step progOk rfl rfl rfl ?_ | refine w_nil ?_ | refine w_seq ?_ | refine w_reg progOk rfl rfl ?_ | (refine w_gFP rfl rfl rfl rfl rfl (ht := fun h => ?_) (hf := fun h => ?_) <;> try exact prn) | (refine w_condP rfl (ht := fun h => ?_) (hf := fun h => ?_) <;> try exact prn) | refine w_skip ?_ | refine w_ret ?_ | refine w_call progOk rfl rfl rfl rfl rfl rfl rfl (cc) rfl rfl ?_ | fail)
    all_goals first
      | (refine w_fin rfl (Sub.of_eq ?_); rw [hw, h1 (by omega)] <;> rfl)
      | (refine w_fin rfl (Sub.of_eq ?_); rw [hw, h2 (by omega)] <;> rfl)
  | true =>
    have he : enT p = .nilIface := by simp [enT, hpk]
    rw [he] at cc
    have w1 : (i < 0 ∨ 3 ≤ i) → ofW e i p = .nilIface := fun hn => by simp only [ofW, if_pos (Or.inl hn : (i < 0 ∨ 3 ≤ i) ∨ partOk p = false)]
    have x1 : (i < 0 ∨ 3 ≤ i) → ofE e i p = faultT 97 [97, 32, 112, 97, 114, 116, 105, 116, 105, 111, 110] 2 := fun hn => by simp only [ofE, if_pos hn]
    have n1 : ¬ (i < 0 ∨ 3 ≤ i) → ¬ ((i < 0 ∨ 3 ≤ i) ∨ partOk p = false) := fun hn hh => hh.elim hn (fun h' => by rw [hpk] at h'; cases h')
    have w2 : ¬ (i < 0 ∨ 3 ≤ i) → e = 0 → ofW e i p = .iface 152 (.agg (encSpot e i)) := fun hn he => by simp only [ofW, if_neg (n1 hn), if_pos he]
    have w3 : ¬ (i < 0 ∨ 3 ≤ i) → e ≠ 0 → e = 1 → ofW e i p = .iface 153 (.agg (encSpot e i)) := fun hn h0 he => by simp only [ofW, if_neg (n1 hn), if_neg h0, if_pos he]
    have w4 : ¬ (i < 0 ∨ 3 ≤ i) → e ≠ 0 → e ≠ 1 → ofW e i p = .nilIface := fun hn h0 he => by simp only [ofW, if_neg (n1 hn), if_neg h0, if_neg he]
    have hpf : ¬ partOk p = false := by rw [hpk]; simp
    have x2 : ¬ (i < 0 ∨ 3 ≤ i) → (e = 0 ∨ e = 1) → ofE e i p = .nilIface := fun hn he => by simp only [ofE, if_neg hn, if_neg hpf, if_pos he]
    have x4 : ¬ (i < 0 ∨ 3 ≤ i) → ¬ (e = 0 ∨ e = 1) → ofE e i p = faultT 97 [97, 110, 32, 101, 110, 103, 105, 110, 101] 2 := fun hn he => by simp only [ofE, if_neg hn, if_neg hpf, if_neg he]
    repeat' (first | refine w_step progOk rfl rfl rfl ?_ | refine w_nil ?_ | refine w_seq ?_ | refine w_reg progOk rfl rfl ?_ | (refine w_gFP rfl rfl rfl rfl rfl (ht := fun h => ?_) (hf := fun h => ?_) <;> try exact prn) | (refine w_condP rfl (ht := fun h => ?_) (hf := fun h => ?_) <;> try exact prn) | refine w_block ?_ | refine w_skip ?_ | refine w_ret ?_ | refine w_call progOk rfl rfl rfl rfl rfl rfl rfl (cc) rfl rfl ?_ | fail)
    all_goals first
      | (refine w_fin rfl (Sub.of_eq ?_); rw [w1 (by omega), x1 (by omega)] <;> rfl)
      | (refine w_fin rfl (Sub.of_eq ?_); rw [w2 (by omega) (by omega), x2 (by omega) (by omega)] <;> rfl)
      | (refine w_fin rfl (Sub.of_eq ?_); rw [w3 (by omega) (by omega) (by omega), x2 (by omega) (by omega)] <;> rfl)
      | (refine w_fin rfl (Sub.of_eq ?_); rw [w4 (by omega) (by omega) (by omega), x4 (by omega) (by omega)] <;> rfl)
end Go.Proofs.YtpdmaenhenfofaaGreatDoor
