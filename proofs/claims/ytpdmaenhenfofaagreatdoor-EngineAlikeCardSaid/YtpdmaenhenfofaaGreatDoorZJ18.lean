/- Contracts and laws, joined: Lf, Lg, Lh. No condition beside those that each theorem names. -/
import Derived.Test.YtpdmaenhenfofaaGreatDoorZM10
import Derived.Test.YtpdmaenhenfofaaGreatDoorZJ17
import Derived.Test.YtpdmaenhenfofaaGreatDoorZJ11
import Derived.Test.YtpdmaenhenfofaaGreatDoorZJ16
import Derived.Test.YtpdmaenhenfofaaGreatDoorZJ7
import Derived.Test.YtpdmaenhenfofaaGreatDoorZJ13
set_option linter.unusedVariables false
set_option linter.unusedSimpArgs false
namespace Go.Proofs.YtpdmaenhenfofaaGreatDoor
open Go.Am
attribute [local irreducible] Decidable.decide
set_option maxRecDepth 100000
set_option maxHeartbeats 1000000
def z0 (r : Row) : Row := { r with offset := 0 }
def eB (x : Int) : Int := if x = -1 then -1 else 0
def eS (s : Seen) : Seen := { s with base := eB s.base }
def eP (p : Prod) : Prod := { p with seen := p.seen.map eS }
theorem eP_has (l : List Prod) (k : Int) : hasP (l.map eP) k = hasP l k := by
  unfold hasP; rw [List.any_map]; rfl
theorem eP_find (l : List Prod) (k : Int) : findP (l.map eP) k = eP (findP l k) := by
  unfold findP
  rw [List.find?_map]
  have e : ((fun p : Prod => decide (p.pid = k)) ∘ eP) = (fun p : Prod => decide (p.pid = k)) := rfl
  rw [e]
  cases l.find? (fun p : Prod => decide (p.pid = k)) <;> rfl
theorem eP_cur (l : List Prod) (b : Batch) : curP (l.map eP) b = eP (curP l b) := by
  unfold curP
  rw [eP_has, eP_find]
  have e : (eP (findP l b.pid)).epoch = (findP l b.pid).epoch := rfl
  rw [e]
  split <;> rfl
theorem eP_fen (l : List Prod) (b : Batch) : fenced (l.map eP) b = fenced l b := by
  unfold fenced; rw [eP_has, eP_find]; rfl
theorem eS_any (l : List Seen) (b : Batch) : (l.map eS).any (sameS b) = l.any (sameS b) := by
  rw [List.any_map]; rfl
theorem eP_seen (l : List Prod) (b : Batch) : (curP (l.map eP) b).seen = (curP l b).seen.map eS := by rw [eP_cur]; rfl
theorem eP_next (l : List Prod) (b : Batch) : (curP (l.map eP) b).next = (curP l b).next := by rw [eP_cur]; rfl
theorem eP_err (l : List Prod) (b : Batch) : chkErr (l.map eP) b = chkErr l b := by
  unfold chkErr; rw [eP_fen, eP_seen, eP_next, eS_any]
theorem eP_is (l : List Prod) (b : Batch) : chkIs (l.map eP) b = chkIs l b := by
  unfold chkIs; rw [eP_fen, eP_seen, eS_any]
theorem eP_base (l : List Prod) (b : Batch) : chkBase (l.map eP) b = eB (chkBase l b) := by
  unfold chkBase; rw [eP_seen, eP_next, eS_any]
  have e : (sameS b ∘ eS) = sameS b := rfl
  rw [List.find?_map, e]
  split
  · cases (curP l b).seen.find? (sameS b) <;> rfl
  · split <;> rfl
theorem ck_alike {l l' : List Prod} {b : Batch} (h : l.map eP = l'.map eP) (hl : mayPs l = true) (hl' : mayPs l' = true) : ckErr l b = ckErr l' b ∧ ckIs l b = ckIs l' b ∧ eB (ckBase l b) = eB (ckBase l' b) := by
  unfold ckErr ckIs ckBase ckOk
  rw [hl, hl', ← eP_err l, ← eP_err l', ← eP_is l, ← eP_is l', ← eP_fen l, ← eP_fen l', h]
  refine ⟨rfl, rfl, ?_⟩
  split
  · split
    · rfl
    · rw [← eP_base, ← eP_base, h]
  · rfl
theorem eP_kept (l : List Prod) (b : Batch) : keptS (l.map eP) b = (keptS l b).map eS := by
  unfold keptS; rw [eP_find]
  have e : (eP (findP l b.pid)).epoch = (findP l b.pid).epoch := rfl
  rw [e]
  split <;> rfl
theorem eP_taken (l : List Prod) (b : Batch) (n : Int) : takenP (l.map eP) b (eB n) = eP (takenP l b n) := by
  simp only [takenP, eP, eP_kept, winS, List.map_drop, List.map_append, List.length_append, List.length_map, List.map_cons, List.map_nil, List.length_cons, List.length_nil]
  rfl
theorem eP_ins (l : List Prod) (p : Prod) : (insF Prod.pid p l).map eP = insF Prod.pid (eP p) (l.map eP) := by
  unfold insF
  rw [List.map_append, List.map_cons, List.filter_map, List.filter_map]
  rfl
theorem taken_alike {l l' : List Prod} {b : Batch} {n n' : Int} (h : l.map eP = l'.map eP) (hl : mayPs l = true) (hl' : mayPs l' = true) (hn : eB n = eB n') : (setS l (takenP l b n)).map eP = (setS l' (takenP l' b n')).map eP := by
  rw [setS_ins (mayPs_iff.1 hl).1, setS_ins (mayPs_iff.1 hl').1, eP_ins, eP_ins, ← eP_taken, ← eP_taken, h, hn]
theorem clear_alike {l l' : List Prod} {k : Int} (h : l.map eP = l'.map eP) (hl : mayPs l = true) (hl' : mayPs l' = true) : (clearS l k).map eP = (clearS l' k).map eP := by
  rw [clear_eq hl, clear_eq hl', ← eP_has l, ← eP_has l', h]
  split
  · rw [setS_ins (mayPs_iff.1 hl).1, setS_ins (mayPs_iff.1 hl').1, eP_ins, eP_ins, h]
    have e : ∀ m : List Prod, eP { findP m k with seen := [] } = { findP (m.map eP) k with seen := [] } := fun m => by rw [eP_find]; rfl
    rw [e, e, h]
  · exact h
theorem z0_rows (b : Batch) (n m : Int) : (rowsOf b n).map z0 = (rowsOf b m).map z0 := by
  refine List.ext_getElem (by simp [rowsOf]) fun i h1 h2 => ?_
  simp [rowsOf, rowOf, z0]
theorem z0_all : ∀ (l : List Batch) (n m : Int), (rowsAll l n).map z0 = (rowsAll l m).map z0
  | [], _, _ => rfl
  | b :: r, n, m => by simp only [rowsAll, List.map_append]; rw [z0_rows b n m, z0_all r (n + b.recs.length) (m + b.recs.length)]
structure AR (a b : Part) : Prop where
  pa : POk a
  pb : POk b
  rows : a.rows.map z0 = b.rows.map z0
  opens : a.opens = b.opens
  prods : a.prods.map eP = b.prods.map eP
  fb : b.fin = b.rows.length
  fab : b.fin ≤ a.fin
theorem ar_zero : AR partZ partZ := ⟨pOk_Z, pOk_Z, rfl, rfl, rfl, rfl, by omega⟩
theorem good_of {e q : Int} {p : Part} (h : POk p) (he : e = 0 ∨ e = 1) (hq : 0 ≤ q ∧ q ≤ 2) : badOf e q p = false := by
  simp [badOf, partOk_iff.2 h]; omega
theorem sumBm_le {l : List Batch} (h : ∀ b ∈ l, mayBatch b = true) : sumB l ≤ 4 * l.length := by
  have e : ∀ l : List Batch, sumB l = recsN l := fun l => by
    induction l with
    | nil => rfl
    | cons a r ih => simp only [sumB, List.map_cons, List.sum_cons, recsN]; unfold sumB at ih; rw [ih]
  rw [e]; exact recsN_le h
theorem sumOm_le : ∀ {l : List Opn}, (∀ o ∈ l, copyOk o = true) → sumO l ≤ 32 * l.length
  | [], _ => Nat.le_refl _
  | o :: r, h => by
    have ih := sumOm_le (l := r) fun x hx => h x (by simp [hx])
    have hc := h o (by simp)
    have h1 := sumBm_le (l := o.batches) fun b hb => (copyOk_all hc b hb).1
    have h2 := copyOk_len hc
    simp only [sumO, List.map_cons, List.sum_cons, List.length_cons] at ih ⊢; omega
theorem refC_alike {i : Nat} {a b : Part} {x : Batch} (h : AR a b) (ta : TQ i a) (tb : TQ i b) (hi : i ≤ 1000) (hm : mayBatch x = true) : refC a x = refC b x := by
  have hb := may_bounds hm
  have h1 := ta.fin; have h2 := tb.fin; have h3 := ta.opens
  have h4 := sumOm_le (l := a.opens) fun o ho => (h.pa.ook o ho).1
  have e : refO a x = refO b x := by unfold refO; rw [h.opens]
  have n1 : ¬ endN a x > 1048576 := by unfold endN; omega
  have n2 : ¬ endN b x > 1048576 := by unfold endN; rw [← h.opens]; omega
  unfold refC
  rw [e, if_neg n1, if_neg n2]
theorem one_alike {a b : Part} {x : Batch} (h : AR a b) (hm : mayBatch x = true) (hca : ckErr a.prods x = 0) (hia : ckIs a.prods x = false) (hra : refC a x = none) (hcb : ckErr b.prods x = 0) (hib : ckIs b.prods x = false) (hrb : refC b x = none) : eB (baseP a x) = eB (baseP b x) ∧ AR (oneP a x) (oneP b x) := by
  have a0 := h.pa.b0; have a1 := h.pa.b1; have b0 := h.pb.b0; have b1 := h.pb.b1
  have hB : eB (baseP a x) = eB (baseP b x) := by
    unfold baseP
    split
    · rfl
    · unfold eB; rw [if_neg (by omega), if_neg (by omega)]
  refine ⟨hB, one_ok h.pa hm hca hia hra, one_ok h.pb hm hcb hib hrb, ?_, ?_, ?_, ?_, ?_⟩
  · cases ht : x.txn with
    | true => simpa [oneP, ht, txnP] using h.rows
    | false =>
      simp only [oneP, ht, plainP, Bool.false_eq_true, if_false, List.map_append]
      rw [h.rows, z0_rows x a.fin b.fin]
  · cases ht : x.txn with
    | true => simp only [oneP, ht, txnP, if_true]; rw [h.opens]
    | false => simpa [oneP, ht, plainP] using h.opens
  · rw [(one_prods h.pa hca hia).1, (one_prods h.pb hcb hib).1]
    exact taken_alike h.prods h.pa.may h.pb.may hB
  · have := h.fb
    cases ht : x.txn with
    | true => simpa [oneP, ht, txnP] using this
    | false => simp only [oneP, ht, plainP, Bool.false_eq_true, if_false, List.length_append, rows_len]; omega
  · have := h.fab
    cases ht : x.txn with
    | true => simpa [oneP, ht, txnP] using this
    | false => simp only [oneP, ht, plainP, Bool.false_eq_true, if_false]; omega
theorem prod_bad {e q : Int} {p : Part} {b : Batch} (h : mayBatch b = false) : (Produce e q p b).e = 2 := by simp [Produce, h]
theorem prod_ck {e q : Int} {p : Part} {b : Batch} (h1 : badOf e q p = false) (h2 : mayBatch b = true) (hc : ckErr p.prods b ≠ 0) : (Produce e q p b).e = ckErr p.prods b := by simp [Produce, h1, h2, prodR, hc]
theorem prod_alike {i : Nat} {a b : Part} {x : Batch} (h : AR a b) (ta : TQ i a) (tb : TQ i b) (hi : i ≤ 1000) : (Produce 0 1 a x).e = (Produce 1 1 b x).e ∧ ((Produce 0 1 a x).e = 0 → eB (Produce 0 1 a x).base = eB (Produce 1 1 b x).base ∧ AR (Produce 0 1 a x).part (Produce 1 1 b x).part) := by
  have ga := good_of (e := 0) (q := 1) h.pa (by omega) (by omega)
  have gb := good_of (e := 1) (q := 1) h.pb (by omega) (by omega)
  cases hm : mayBatch x with
  | false => rw [prod_bad hm, prod_bad hm]; exact ⟨rfl, fun h => by cases h⟩
  | true =>
    obtain ⟨k1, k2, k3⟩ := ck_alike (b := x) h.prods h.pa.may h.pb.may
    by_cases hc : ckErr a.prods x = 0
    · have hcb : ckErr b.prods x = 0 := by rw [← k1]; exact hc
      have hr := refC_alike h ta tb hi hm
      rw [prod_of ga hm hc, prod_of gb hm hcb, ← k2]
      cases hI : ckIs a.prods x with
      | true => exact ⟨rfl, fun _ => ⟨k3, h⟩⟩
      | false =>
        simp only [Bool.false_eq_true, if_false]
        rw [← hr]
        cases hR : refC a x with
        | some y => exact ⟨rfl, fun h => absurd h (refC_ne hR)⟩
        | none => exact ⟨rfl, fun _ => one_alike h hm hc hI hR hcb (by rw [← k2]; exact hI) (by rw [← hr]; exact hR)⟩
    · rw [prod_ck ga hm hc, prod_ck gb hm (by rw [← k1]; exact hc)]
      exact ⟨k1, fun h => absurd h hc⟩
theorem endp_alike {i : Nat} {a b : Part} {k : Nat} {o : Opn} {yes : Bool} (h : AR a b) (ta : TQ i a) (tb : TQ i b) (hi : i ≤ 1000) (hk : a.opens[k]? = some o) : AR (endP 0 a k o yes) (endP 1 b k o yes) := by
  have hkb : b.opens[k]? = some o := by rw [← h.opens]; exact hk
  have h1 := ta.fin; have h2 := tb.fin; have h3 := h.fb; have h4 := h.fab
  have hcp := (h.pa.ook o (List.mem_of_getElem? hk)).1
  have hl := copyOk_len hcp
  have hr := recsN_le (l := o.batches) fun b hb => (copyOk_all hcp b hb).1
  refine ⟨endP_ok h.pa hk (by omega), endP_ok h.pb hkb (by omega), ?_, ?_, clear_alike h.prods h.pa.may h.pb.may, ?_, ?_⟩
  · cases yes with
    | false => simpa [endP, endC] using h.rows
    | true =>
      simp only [endP, endC, if_true, List.map_append]
      rw [h.rows, z0_all o.batches a.fin b.fin]
  · simp only [endP]; rw [h.opens]
  · cases yes with
    | false => simpa [endP, endC] using h3
    | true => simp only [endP, endC, if_true, List.length_append, rowsAll_len]; simp; omega
  · cases yes with
    | false => simp [endP, endC]; omega
    | true => simp [endP, endC]; omega
theorem end_alike {i : Nat} {a b : Part} {pid : Int} {yes : Bool} (h : AR a b) (ta : TQ i a) (tb : TQ i b) (hi : i ≤ 1000) : (End 0 1 a pid yes).e = 0 ∧ (End 1 1 b pid yes).e = 0 ∧ AR (End 0 1 a pid yes).part (End 1 1 b pid yes).part := by
  have ga := good_of (e := 0) (q := 1) h.pa (by omega) (by omega)
  have gb := good_of (e := 1) (q := 1) h.pb (by omega) (by omega)
  unfold End
  rw [ga, gb, ← h.opens]
  cases hf : a.opens.find? (fun o => decide (o.pid = pid)) with
  | none => exact ⟨by first | trivial | rfl, by first | trivial | rfl, h⟩
  | some o =>
    obtain ⟨k, hk, hidx, _⟩ := find_idx hf
    simp only [Bool.false_eq_true, if_false]
    rw [hidx]
    exact ⟨by first | trivial | rfl, by first | trivial | rfl, endp_alike h ta tb hi hk⟩
theorem eB_iff {x y : Int} (h : eB x = eB y) : x = -1 ↔ y = -1 := by
  unfold eB at h
  by_cases h1 : x = -1 <;> by_cases h2 : y = -1 <;> simp_all
theorem alike_step {i : Nat} {a b : Part} {x : Act2} (h : AR a b) (ta : TQ i a) (tb : TQ i b) (hi : i ≤ 1000) (hk : x.kind ≠ 2) : (does 0 a x).e = (does 1 b x).e ∧ ((does 0 a x).base = -1 ↔ (does 1 b x).base = -1) ∧ AR (does 0 a x).part (does 1 b x).part := by
  by_cases h0 : x.kind = 0
  · obtain ⟨p1, p2⟩ := prod_alike (x := txB x) h ta tb hi
    unfold does
    rw [if_pos h0, if_pos h0, ← p1]
    by_cases hz : (Produce 0 1 a (txB x)).e = 0
    · obtain ⟨p3, p4⟩ := p2 hz
      rw [if_neg (by simpa using hz), if_neg (by simpa using hz)]
      exact ⟨p1, eB_iff p3, p4⟩
    · rw [if_pos hz, if_pos hz]
      exact ⟨rfl, Iff.rfl, h⟩
  · by_cases h1 : x.kind = 1
    · obtain ⟨p1, p2, p3⟩ := end_alike (pid := x.pid) (yes := x.yes) h ta tb hi
      unfold does
      rw [if_neg h0, if_neg h0, if_pos h1, if_pos h1, if_neg (by simpa using p1), if_neg (by simpa using p2)]
      exact ⟨by rw [p1, p2], Iff.rfl, p3⟩
    · unfold does
      rw [if_neg h0, if_neg h0, if_neg h1, if_neg h1, if_neg hk, if_neg hk]
      exact ⟨by first | trivial | rfl, by first | exact Iff.rfl | trivial, h⟩
end Go.Proofs.YtpdmaenhenfofaaGreatDoor

namespace Go.Proofs.YtpdmaenhenfofaaGreatDoor
open Go.Am
attribute [local irreducible] Decidable.decide
set_option maxRecDepth 100000
set_option maxHeartbeats 1000000
theorem rows13_ok (b : Batch) (hb : mayBatch b = true) : Ct Tryz.prog 44 [.agg (liftT (encBatch b)), .t (.int .i64 (-1))] [] (.t (.slice .any 5 ((rowsOf b (-1)).map encRow))) [] := by
  have hm := may_bounds hb
  have hlm : (b.recs.map encRec).length = b.recs.length := List.length_map ..
  refine ct0 progOk Tryz.func44 rfl false rfl rfl ?_
  repeat' (first | refine w_step progOk rfl rfl rfl ?_ | refine w_nil ?_ | refine w_seq ?_ | refine w_reg progOk rfl rfl ?_ | refine w_block ?_ | fail)
  refine Tr.nilRow 5 42 5 rfl rfl ?_
  refine w_loop (ι := Nat) (fun i => i ≤ b.recs.length) (fun i => [(1, .t (.int .i64 (-1))), (2, .ref 4 0), (5, .row 84 5 0 (((b.recs.take i).mapIdx (rowOf b (-1))).map encRow).length), (6, .t (.int .i64 i))]) (fun i => [(84, .grow 5 (((b.recs.take i).mapIdx (rowOf b (-1))).map encRow)), (4, .cells (liftT (encBatch b)))]) (fun i => b.recs.length - i) 0 (by simp) ?_ ?_
  · exact at_of [] (sub_eq rfl rfl (sub_eq rfl rfl (sub_eq rfl rfl (sub_eq rfl rfl sub_nil)))) rfl
  rintro i hi
  by_cases hlt : i < b.recs.length
  · have hr : b.recs[i]? = some b.recs[i] := List.getElem?_eq_getElem hlt
    generalize b.recs[i] = r at hr
    have hw1 : IntKind.i64.wrap (b.seq + i) = b.seq + i := wrap64 (by omega) (by omega)
    repeat' (first | refine w_step progOk rfl rfl rfl ?_ | refine w_nil ?_ | refine w_seq ?_ | refine w_reg progOk rfl rfl ?_ | (refine w_condP rfl (ht := fun h => ?_) (hf := fun h => ?_) <;> try exact prn) | refine w_block ?_ | refine w_skip ?_ | refine w_appRow progOk rfl rfl rfl rfl rfl rfl rfl rfl rfl rfl rfl rfl rfl rfl (by simp [chunk]; omega) ?_ | refine w_regD (id := 8) (m := 22) progOk (by kernel_rfl) rfl rfl rfl rfl ?_ | refine s_step rfl rfl rfl rfl ?_ | refine s_index rfl rfl rfl rfl rfl rfl rfl (map_get (by assumption)) rfl ?_ | fail)
    all_goals refine w_next (i + 1) hlt (by omega) [] (sub_eq rfl rfl (sub_eq rfl rfl (sub_eq rfl ?_ (sub_eq rfl (by rw [wrap64 (by omega) (by omega)]; rfl) sub_nil)))) ?_
    all_goals rw [rows_take hr, List.map_append, rowOf]
    all_goals try rw [hw1]
    all_goals rfl
  · repeat' (first | refine w_step progOk rfl rfl rfl ?_ | refine w_nil ?_ | refine w_seq ?_ | refine w_reg progOk rfl rfl ?_ | (refine w_condP rfl (ht := fun h => ?_) (hf := fun h => ?_) <;> try exact prn) | refine w_exit ?_ | refine w_ret ?_ | fail)
    refine w_fin rfl (Sub.of_eq ?_)
    have ht : b.recs.take i = b.recs := List.take_of_length_le (by omega)
    rw [ht]
    simp [frzA, rowsOf]
    try exact List.take_of_length_le (by simp)
theorem plain13_ok (l : List Row) (hl : l.length ≤ 1000000) : Ct Tryz.prog 21 [.t (.slice .any 5 (l.map encRow))] [] (.t (.slice .any 5 ((l.map z0).map encRow))) [] := by
  have hlm : (l.map encRow).length = l.length := List.length_map ..
  refine ct0 progOk Tryz.func21 rfl false rfl rfl ?_
  repeat' (first | refine w_step progOk rfl rfl rfl ?_ | refine w_nil ?_ | refine w_seq ?_ | refine w_reg progOk rfl rfl ?_ | refine w_block ?_ | fail)
  refine Tr.nilRow 3 20 5 rfl rfl ?_
  refine w_loop (ι := Nat) (fun i => i ≤ l.length) (fun i => [(0, .t (.slice .any 5 (l.map encRow))), (3, .row 40 5 0 (((l.take i).map z0).map encRow).length), (4, .t (.int .i64 i))]) (fun i => [(40, .grow 5 (((l.take i).map z0).map encRow))]) (fun i => l.length - i) 0 (by simp) ?_ ?_
  · exact at_of [] (sub_eq rfl rfl (sub_eq rfl rfl (sub_eq rfl rfl sub_nil))) rfl
  rintro i hi
  by_cases hlt : i < l.length
  · have hr : l[i]? = some l[i] := List.getElem?_eq_getElem hlt
    generalize l[i] = r at hr
    repeat' (first | refine w_stepZ progOk rfl rfl rfl rfl rfl ?_ | refine w_step progOk rfl rfl rfl ?_ | refine w_nil ?_ | refine w_seq ?_ | refine w_reg progOk rfl rfl ?_ | (refine w_condP rfl (ht := fun h => ?_) (hf := fun h => ?_) <;> try exact prn) | refine w_block ?_ | refine w_skip ?_ | refine w_index progOk rfl rfl rfl rfl rfl rfl rfl (map_get (by assumption)) rfl ?_ | refine w_appRow progOk rfl rfl rfl rfl rfl rfl rfl rfl rfl rfl rfl rfl rfl rfl (by simp [chunk]; omega) ?_ | fail)
    refine w_next (i + 1) hlt (by omega) [5] (sub_eq rfl rfl (sub_eq rfl ?_ (sub_eq rfl (by rw [wrap64 (by omega) (by omega)]; rfl) sub_nil))) ?_
    all_goals rw [take_succ hr, List.map_append, List.map_append]
    all_goals rfl
  · repeat' (first | refine w_step progOk rfl rfl rfl ?_ | refine w_nil ?_ | refine w_seq ?_ | refine w_reg progOk rfl rfl ?_ | (refine w_condP rfl (ht := fun h => ?_) (hf := fun h => ?_) <;> try exact prn) | refine w_exit ?_ | refine w_ret ?_ | fail)
    refine w_fin rfl (Sub.of_eq ?_)
    have ht : l.take i = l := List.take_of_length_le (by omega)
    rw [ht]
    simp [frzA]
    try exact List.take_of_length_le (by simp)
def pendB (l : List Batch) : List Row := l.flatMap (fun b => rowsOf b (-1))
def pendO (l : List Opn) : List Row := l.flatMap (fun o => pendB o.batches)
theorem pendB_snoc (l : List Batch) (b : Batch) : pendB (l ++ [b]) = pendB l ++ rowsOf b (-1) := by simp [pendB]
theorem pendO_snoc (l : List Opn) (o : Opn) : pendO (l ++ [o]) = pendO l ++ pendB o.batches := by simp [pendO]
theorem pendB_len {l : List Batch} (h : ∀ b ∈ l, mayBatch b = true) : (pendB l).length ≤ 4 * l.length := by
  induction l with
  | nil => simp [pendB]
  | cons b r ih =>
    have h1 := ih fun x hx => h x (by simp [hx])
    have h2 := may_bounds (h b (by simp))
    simp only [pendB, List.flatMap_cons, List.length_append, rows_len, List.length_cons] at h1 ⊢
    omega
theorem pendO_len {l : List Opn} (h : ∀ o ∈ l, copyOk o = true) : (pendO l).length ≤ 32 * l.length := by
  induction l with
  | nil => simp [pendO]
  | cons o r ih =>
    have h1 := ih fun x hx => h x (by simp [hx])
    have hc := h o (by simp)
    have h2 := pendB_len (l := o.batches) fun b hb => (copyOk_all hc b hb).1
    have h3 := copyOk_len hc
    simp only [pendO, List.flatMap_cons, List.length_append, List.length_cons] at h1 ⊢
    omega
theorem pend13_ok (p : Part) (h : ∀ o ∈ p.opens, copyOk o = true) (hl : p.opens.length ≤ 1000000) : Ct Tryz.prog 22 [.agg (liftT (encPart p))] [] (.t (.slice .any 5 ((pendO p.opens).map encRow))) [] := by
  have hlm : (p.opens.map encOpn).length = p.opens.length := List.length_map ..
  refine ct0 progOk Tryz.func22 rfl false rfl rfl ?_
  repeat' (first | refine w_step progOk rfl rfl rfl ?_ | refine w_nil ?_ | refine w_seq ?_ | refine w_reg progOk rfl rfl ?_ | refine w_block ?_ | fail)
  refine Tr.nilRow 3 33 5 rfl rfl ?_
  refine w_loop (ι := Nat) (fun i => i ≤ p.opens.length) (fun i => [(1, .ref 2 0), (3, .row 66 5 0 ((pendO (p.opens.take i)).map encRow).length), (4, .t (.int .i64 i))]) (fun i => [(66, .grow 5 ((pendO (p.opens.take i)).map encRow)), (2, .cells (liftT (encPart p)))]) (fun i => p.opens.length - i) 0 (by simp) ?_ ?_
  · exact at_of [] (sub_eq rfl rfl (sub_eq rfl rfl (sub_eq rfl rfl sub_nil))) rfl
  rintro i hi
  by_cases hlt : i < p.opens.length
  · have hr : p.opens[i]? = some p.opens[i] := List.getElem?_eq_getElem hlt
    have hc := h p.opens[i] (List.getElem_mem hlt)
    generalize p.opens[i] = o at hr hc
    have hbl := copyOk_len hc
    have hbm : ∀ b ∈ o.batches, mayBatch b = true := fun b hb => (copyOk_all hc b hb).1
    have hlb : (o.batches.map encBatch).length = o.batches.length := List.length_map ..
    have hpl := pendO_len (l := p.opens.take i) fun x hx => h x (List.mem_of_mem_take hx)
    have hti : (p.opens.take i).length ≤ i := by rw [List.length_take]; omega
    repeat' (first | refine w_stepZ progOk rfl rfl rfl rfl rfl ?_ | refine w_step progOk rfl rfl rfl ?_ | refine w_nil ?_ | refine w_seq ?_ | refine w_reg progOk rfl rfl ?_ | (refine w_condP rfl (ht := fun h => ?_) (hf := fun h => ?_) <;> try exact prn) | refine w_block ?_ | refine w_skip ?_ | refine w_index progOk rfl rfl rfl rfl rfl rfl rfl (map_get (by assumption)) rfl ?_ | fail)
    refine Tr.swapS rfl ?_
    refine w_loop (ι := Nat) (fun j => j ≤ o.batches.length) (fun j => [(1, .ref 2 0), (3, .row 66 5 0 ((pendO (p.opens.take i) ++ pendB (o.batches.take j)).map encRow).length), (4, .t (.int .i64 i)), (5, .ref 10 0), (6, .t (.int .i64 j))]) (fun j => [(66, .grow 5 ((pendO (p.opens.take i) ++ pendB (o.batches.take j)).map encRow)), (10, .cells (liftT (encOpn o))), (2, .cells (liftT (encPart p)))]) (fun j => o.batches.length - j) 0 (by simp) ?_ ?_
    · refine at_of [] (sub_eq rfl rfl (sub_eq rfl ?_ (sub_eq rfl rfl (sub_eq rfl rfl (sub_eq rfl rfl sub_nil))))) ?_
      all_goals rw [show pendB (o.batches.take 0) = [] from rfl, List.append_nil]
      all_goals rfl
    rintro j hj
    by_cases hlj : j < o.batches.length
    · have hrj : o.batches[j]? = some o.batches[j] := List.getElem?_eq_getElem hlj
      have hmb := hbm o.batches[j] (List.getElem_mem hlj)
      generalize o.batches[j] = b at hrj hmb
      have hbl2 := pendB_len (l := o.batches.take j) fun x hx => hbm x (List.mem_of_mem_take hx)
      have htj : (o.batches.take j).length ≤ j := by rw [List.length_take]; omega
      have hmm := may_bounds hmb
      have hrl : (rowsOf b (-1)).length = b.recs.length := rows_len
      have cr := rows13_ok b hmb
      repeat' (first | refine w_step progOk rfl rfl rfl ?_ | refine w_nil ?_ | refine w_seq ?_ | refine w_reg progOk rfl rfl ?_ | (refine w_condP rfl (ht := fun h => ?_) (hf := fun h => ?_) <;> try exact prn) | refine w_block ?_ | refine w_skip ?_ | refine w_index progOk rfl rfl rfl rfl rfl rfl rfl (map_get (by assumption)) rfl ?_ | refine w_appRow progOk rfl rfl rfl rfl rfl rfl rfl rfl rfl rfl rfl rfl rfl rfl (by simp [chunk]; omega) ?_ | refine w_call progOk rfl rfl rfl rfl rfl rfl rfl (cr) rfl rfl ?_ | fail)
      refine w_next (j + 1) hlj (by omega) [] (sub_eq rfl rfl (sub_eq rfl ?_ (sub_eq rfl rfl (sub_eq rfl rfl (sub_eq rfl (by rw [wrap64 (by omega) (by omega)]; rfl) sub_nil))))) ?_
      all_goals rw [take_succ hrj, pendB_snoc, ← List.append_assoc]
      all_goals simp only [List.map_append]
      all_goals rfl
    · repeat' (first | refine w_step progOk rfl rfl rfl ?_ | refine w_nil ?_ | refine w_seq ?_ | refine w_reg progOk rfl rfl ?_ | (refine w_condP rfl (ht := fun h => ?_) (hf := fun h => ?_) <;> try exact prn) | refine w_exit ?_ | fail)
      have ht : o.batches.take j = o.batches := List.take_of_length_le (by omega)
      refine w_next (i + 1) hlt (by omega) [5] (sub_eq rfl rfl (sub_eq rfl ?_ (sub_eq rfl (by rw [wrap64 (by omega) (by omega)]; rfl) sub_nil))) ?_
      all_goals rw [take_succ hr, pendO_snoc, ht]
      all_goals rfl
  · repeat' (first | refine w_step progOk rfl rfl rfl ?_ | refine w_nil ?_ | refine w_seq ?_ | refine w_reg progOk rfl rfl ?_ | (refine w_condP rfl (ht := fun h => ?_) (hf := fun h => ?_) <;> try exact prn) | refine w_exit ?_ | refine w_ret ?_ | fail)
    refine w_fin rfl (Sub.of_eq ?_)
    have ht : p.opens.take i = p.opens := List.take_of_length_le (by omega)
    rw [ht]
    simp [frzA]
    try exact List.take_of_length_le (by simp)
theorem check13_ok (p : Part) (hpo : POk p) (hl : p.rows.length ≤ 1000000) (ho : p.opens.length ≤ 1000000) : Ct Tryz.prog 23 [.agg (liftT (encPart p))] [] (.t (.int .i64 0)) [] := by
  have hlm : (p.rows.map encRow).length = p.rows.length := List.length_map ..
  have hlo : (p.opens.map encOpn).length = p.opens.length := List.length_map ..
  have b0 := hpo.b0
  have b1 := hpo.b1
  have b2 := hpo.b2
  refine ct0 progOk Tryz.func23 rfl false rfl rfl ?_
  repeat' (first | refine w_step progOk rfl rfl rfl ?_ | refine w_nil ?_ | refine w_seq ?_ | refine w_reg progOk rfl rfl ?_ | (refine w_gFP rfl rfl rfl rfl rfl (ht := fun h => ?_) (hf := fun h => ?_) <;> try exact prn) | (refine w_condP rfl (ht := fun h => ?_) (hf := fun h => ?_) <;> try exact prn) | refine w_block ?_ | refine w_skip ?_ | fail)
  all_goals try (exfalso; omega)
  refine w_loop (ι := Nat) (fun i => i ≤ p.rows.length) (fun i => [(1, .ref 2 0), (3, .t (.int .i64 i))]) (fun i => [(2, .cells (liftT (encPart p)))]) (fun i => p.rows.length - i) 0 (by simp) ?_ ?_
  · exact at_of [] (sub_eq rfl rfl (sub_eq rfl rfl sub_nil)) rfl
  rintro i hi
  by_cases hlt : i < p.rows.length
  · have hr : p.rows[i]? = some p.rows[i] := List.getElem?_eq_getElem hlt
    have hin := hpo.rin p.rows[i] (List.getElem_mem hlt)
    by_cases h0 : i = 0
    · subst h0
      generalize p.rows[0] = r at hr hin
      repeat' (first | refine w_step progOk rfl rfl rfl ?_ | refine w_nil ?_ | refine w_seq ?_ | refine w_reg progOk rfl rfl ?_ | (refine w_gTP rfl rfl rfl rfl rfl (ht := fun h => ?_) (hf := fun h => ?_) <;> try exact prn) | (refine w_gFP rfl rfl rfl rfl rfl (ht := fun h => ?_) (hf := fun h => ?_) <;> try exact prn) | (refine w_condP rfl (ht := fun h => ?_) (hf := fun h => ?_) <;> try exact prn) | refine w_block ?_ | refine w_skip ?_ | refine w_index progOk rfl rfl rfl rfl rfl rfl rfl (map_get (by assumption)) rfl ?_ | fail)
      all_goals try (exfalso; omega)
      all_goals refine w_next (0 + 1) hlt (by omega) [] (sub_eq rfl rfl (sub_eq rfl (by rw [wrap64 (by omega) (by omega)]; rfl) sub_nil)) rfl
    · have hr1 : p.rows[i - 1]? = some (p.rows[i - 1]'(by omega)) := List.getElem?_eq_getElem _
      have hs := List.pairwise_iff_getElem.1 hpo.srt (i - 1) i (by omega) hlt (by omega)
      generalize p.rows[i - 1]'(by omega) = r1 at hr1 hs
      generalize p.rows[i] = r at hr hin hs
      have hw : IntKind.i64.wrap ((i : Int) - 1) = ((i - 1 : Nat) : Int) := by rw [wrap64 (by omega) (by omega)]; omega
      repeat' (first | refine w_step progOk rfl rfl rfl ?_ | refine w_nil ?_ | refine w_seq ?_ | refine w_reg progOk rfl rfl ?_ | (refine w_gTP rfl rfl rfl rfl rfl (ht := fun h => ?_) (hf := fun h => ?_) <;> try exact prn) | (refine w_gFP rfl rfl rfl rfl rfl (ht := fun h => ?_) (hf := fun h => ?_) <;> try exact prn) | (refine w_condP rfl (ht := fun h => ?_) (hf := fun h => ?_) <;> try exact prn) | refine w_block ?_ | refine w_skip ?_ | refine w_index progOk rfl rfl rfl rfl rfl rfl rfl (map_get (by assumption)) rfl ?_ | refine w_indexE progOk rfl rfl rfl rfl rfl rfl rfl (by assumption) (map_get (by assumption)) rfl ?_ | fail)
      all_goals try (exfalso; omega)
      all_goals refine w_next (i + 1) hlt (by omega) [] (sub_eq rfl rfl (sub_eq rfl (by rw [wrap64 (by omega) (by omega)]; rfl) sub_nil)) rfl
  · repeat' (first | refine w_step progOk rfl rfl rfl ?_ | refine w_nil ?_ | refine w_seq ?_ | refine w_reg progOk rfl rfl ?_ | (refine w_condP rfl (ht := fun h => ?_) (hf := fun h => ?_) <;> try exact prn) | refine w_block ?_ | refine w_exit ?_ | fail)
    all_goals refine w_loop (ι := Nat) (fun i => i ≤ p.opens.length) (fun i => [(1, .ref 2 0), (5, .t (.int .i64 i))]) (fun i => [(2, .cells (liftT (encPart p)))]) (fun i => p.opens.length - i) 0 (by simp) ?_ ?_
    · exact at_of [] (sub_eq rfl rfl (sub_eq rfl rfl sub_nil)) rfl
    rintro i hi
    by_cases hlt : i < p.opens.length
    · have hr : p.opens[i]? = some p.opens[i] := List.getElem?_eq_getElem hlt
      have hc := copyOk_len (hpo.ook p.opens[i] (List.getElem_mem hlt)).1
      by_cases h0 : i = 0
      · subst h0
        generalize p.opens[0] = o at hr hc
        have hlb : (o.batches.map encBatch).length = o.batches.length := List.length_map ..
        repeat' (first | refine w_step progOk rfl rfl rfl ?_ | refine w_nil ?_ | refine w_seq ?_ | refine w_reg progOk rfl rfl ?_ | (refine w_gTP rfl rfl rfl rfl rfl (ht := fun h => ?_) (hf := fun h => ?_) <;> try exact prn) | (refine w_gFP rfl rfl rfl rfl rfl (ht := fun h => ?_) (hf := fun h => ?_) <;> try exact prn) | (refine w_condP rfl (ht := fun h => ?_) (hf := fun h => ?_) <;> try exact prn) | refine w_block ?_ | refine w_skip ?_ | refine w_regD (id := 12) (m := 25) progOk (by kernel_rfl) rfl rfl rfl rfl ?_ | refine s_step rfl rfl rfl rfl ?_ | (refine s_gTP rfl rfl rfl rfl rfl (ht := fun h => ?_) (hf := fun h => ?_) <;> try exact prn) | (refine s_gFP rfl rfl rfl rfl rfl (ht := fun h => ?_) (hf := fun h => ?_) <;> try exact prn) | refine s_index rfl rfl rfl rfl rfl rfl rfl (map_get (by assumption)) rfl ?_ | fail)
        all_goals try (exfalso; omega)
        all_goals refine w_next (0 + 1) hlt (by omega) [] (sub_eq rfl rfl (sub_eq rfl (by rw [wrap64 (by omega) (by omega)]; rfl) sub_nil)) rfl
      · have hr1 : p.opens[i - 1]? = some (p.opens[i - 1]'(by omega)) := List.getElem?_eq_getElem _
        have hs := List.pairwise_iff_getElem.1 hpo.osrt (i - 1) i (by omega) hlt (by omega)
        generalize p.opens[i - 1]'(by omega) = r1 at hr1 hs
        generalize p.opens[i] = o at hr hc hs
        have hlb : (o.batches.map encBatch).length = o.batches.length := List.length_map ..
        have hw : IntKind.i64.wrap ((i : Int) - 1) = ((i - 1 : Nat) : Int) := by rw [wrap64 (by omega) (by omega)]; omega
        repeat' (first | refine w_step progOk rfl rfl rfl ?_ | refine w_nil ?_ | refine w_seq ?_ | refine w_reg progOk rfl rfl ?_ | (refine w_gTP rfl rfl rfl rfl rfl (ht := fun h => ?_) (hf := fun h => ?_) <;> try exact prn) | (refine w_gFP rfl rfl rfl rfl rfl (ht := fun h => ?_) (hf := fun h => ?_) <;> try exact prn) | (refine w_condP rfl (ht := fun h => ?_) (hf := fun h => ?_) <;> try exact prn) | refine w_block ?_ | refine w_skip ?_ | refine w_regD (id := 12) (m := 25) progOk (by kernel_rfl) rfl rfl rfl rfl ?_ | refine s_step rfl rfl rfl rfl ?_ | (refine s_gTP rfl rfl rfl rfl rfl (ht := fun h => ?_) (hf := fun h => ?_) <;> try exact prn) | (refine s_gFP rfl rfl rfl rfl rfl (ht := fun h => ?_) (hf := fun h => ?_) <;> try exact prn) | refine s_index rfl rfl rfl rfl rfl rfl rfl (map_get (by assumption)) rfl ?_ | refine s_indexE rfl rfl rfl rfl rfl rfl rfl (by assumption) (map_get (by assumption)) rfl ?_ | fail)
        all_goals try (exfalso; omega)
        all_goals refine w_next (i + 1) hlt (by omega) [] (sub_eq rfl rfl (sub_eq rfl (by rw [wrap64 (by omega) (by omega)]; rfl) sub_nil)) rfl
    · repeat' (first | refine w_step progOk rfl rfl rfl ?_ | refine w_nil ?_ | refine w_seq ?_ | refine w_reg progOk rfl rfl ?_ | (refine w_condP rfl (ht := fun h => ?_) (hf := fun h => ?_) <;> try exact prn) | refine w_exit ?_ | refine w_ret ?_ | fail)
      exact w_fin rfl (Sub.of_eq rfl)
end Go.Proofs.YtpdmaenhenfofaaGreatDoor

namespace Go.Proofs.YtpdmaenhenfofaaGreatDoor
open Go.Am
attribute [local irreducible] Decidable.decide
set_option maxRecDepth 100000
set_option maxHeartbeats 1000000
theorem alike_walk (l : List Act2) (hg : greatAs l = false) : Ct Tryz.prog 6 [.t (.slice .any 9 (l.map encAct2))] [] (.t (.bool true)) [] := by
  have cg := great17_ok l
  rw [hg] at cg
  have hlm : (l.map encAct2).length = l.length := List.length_map ..
  have hg2 := hg
  simp only [greatAs, Bool.or_eq_false_iff, decide_eq_false_iff_not] at hg2
  obtain ⟨h60, hall⟩ := hg2
  have hle : (l.length : Int) ≤ 60 := by omega
  refine ct0 progOk Tryz.func6 rfl false rfl rfl ?_
  repeat' (first | refine w_step progOk rfl rfl rfl ?_ | refine w_nil ?_ | refine w_seq ?_ | refine w_reg progOk rfl rfl ?_ | (refine w_condP rfl (ht := fun h => ?_) (hf := fun h => ?_) <;> try exact prn) | refine w_block ?_ | refine w_skip ?_ | refine w_call progOk rfl rfl rfl rfl rfl rfl rfl (cg) rfl rfl ?_ | fail)
  all_goals try (exfalso; simp_all; done)
  all_goals refine Tr.weakC (cs' := liftT (encPart partZ)) 8 rfl ⟨Sub.refl _, Sub.refl _, sub_slNil, sub_slNil, sub_slNil, trivial⟩ ?_
  all_goals refine Tr.weakC (cs' := liftT (encPart partZ)) 6 rfl ⟨Sub.refl _, Sub.refl _, sub_slNil, sub_slNil, sub_slNil, trivial⟩ ?_
  all_goals refine w_loop (ι := Nat × Part × Part) (fun x => x.1 ≤ l.length ∧ AR x.2.1 x.2.2 ∧ TQ x.1 x.2.1 ∧ TQ x.1 x.2.2) (fun x => [(3, .ref 6 0), (4, .ref 8 0), (18, .t (.slice .any 9 (l.map encAct2))), (19, .t (.int .i64 ((l.map encAct2).length : Int))), (20, .t (.int .i64 x.1))]) (fun x => [(8, .cells (liftT (encPart x.2.2))), (6, .cells (liftT (encPart x.2.1)))]) (fun x => l.length - x.1) (0, partZ, partZ) ⟨by simp, ar_zero, ⟨pOk_small pOk_Z (by decide) (by decide), by decide, by decide, by decide⟩, ⟨pOk_small pOk_Z (by decide) (by decide), by decide, by decide, by decide⟩⟩ ?_ ?_
  all_goals first
    | exact at_of [] (sub_eq rfl rfl (sub_eq rfl rfl (sub_eq rfl rfl (sub_eq rfl rfl (sub_eq rfl rfl sub_nil))))) rfl
    | skip
  all_goals rintro ⟨i, a, b⟩ ⟨hi, hR, ta, tb⟩
  all_goals simp only at hi hR ta tb
  all_goals (
    by_cases hlt : i < l.length
    · have hr : l[i]? = some l[i] := List.getElem?_eq_getElem hlt
      have hrl : l[i].b.recs.length ≤ 1000000 := by
        have h1 := List.any_eq_false.1 hall l[i] (List.getElem_mem hlt)
        have h2 := (greatBs_small (by simpa using h1)).2 l[i].b (by simp)
        omega
      generalize l[i] = x at hr hrl
      by_cases hk : x.kind = 2
      · repeat' (first | refine w_stepZ progOk rfl rfl rfl rfl rfl ?_ | refine w_step progOk rfl rfl rfl ?_ | refine w_nil ?_ | refine w_seq ?_ | refine w_reg progOk rfl rfl ?_ | (refine w_condP rfl (ht := fun h => ?_) (hf := fun h => ?_) <;> try exact prn) | refine w_block ?_ | refine w_skip ?_ | refine w_exit ?_ | refine w_index progOk rfl rfl rfl rfl rfl rfl rfl (map_get (by assumption)) rfl ?_ | fail)
        all_goals refine w_next (i + 1, a, b) ⟨hlt, hR, ta.up, tb.up⟩ (by simp; omega) [6] (sub_eq rfl rfl (sub_eq rfl rfl (sub_eq rfl rfl (sub_eq rfl rfl (sub_eq rfl (by rw [wrap64 (by omega) (by omega)]; rfl) sub_nil))))) rfl
      · have ca := does_ok 0 a x ta.small hrl
        have cb := does_ok 1 b x tb.small hrl
        have sa := does_step (e := 0) (a := x) ta (by omega)
        have sb := does_step (e := 1) (a := x) tb (by omega)
        obtain ⟨he, hn, hS⟩ := alike_step (x := x) hR ta tb (by omega) hk
        generalize does 0 a x = r at ca sa he hn hS
        generalize does 1 b x = s at cb sb he hn hS
        rcases s with ⟨b2, n2, w2, e2⟩
        simp only at he hn hS sb
        subst he
        unfold PO.av at ca cb
        simp only at cb
        have r1 := sa.rows; have r2 := sb.rows; have r3 := sa.opens; have r4 := sb.opens
        have ka := plain13_ok r.part.rows (by omega)
        have kb := plain13_ok b2.rows (by omega)
        have kp := pend13_ok r.part (fun o ho => (hS.pa.ook o ho).1) (by omega)
        have kq := pend13_ok b2 (fun o ho => (hS.pb.ook o ho).1) (by omega)
        have ks := sameRows_ok (r.part.rows.map z0) (b2.rows.map z0) (by simp; omega)
        rw [decide_eq_true hS.rows] at ks
        have hpl := pendO_len (l := r.part.opens) fun o ho => (hS.pa.ook o ho).1
        have kt := sameRows_ok (pendO r.part.opens) (pendO b2.opens) (by omega)
        rw [decide_eq_true (by rw [hS.opens])] at kt
        have fb := hS.fb
        have fab := hS.fab
        have hlr : (b2.rows.map encRow).length = b2.rows.length := List.length_map ..
        have hbb : (r.base == -1) = (n2 == -1) := by rw [Bool.eq_iff_iff]; simp [hn]
        repeat' (first | refine w_stepZ progOk rfl rfl rfl rfl rfl ?_ | refine w_step progOk rfl rfl rfl ?_ | refine w_nil ?_ | refine w_seq ?_ | refine w_reg progOk rfl rfl ?_ | (refine w_gFP rfl rfl rfl rfl rfl (ht := fun h => ?_) (hf := fun h => ?_) <;> try exact prn) | (refine w_condP rfl (ht := fun h => ?_) (hf := fun h => ?_) <;> try exact prn) | refine w_block ?_ | refine w_skip ?_ | refine w_index progOk rfl rfl rfl rfl rfl rfl rfl (map_get (by assumption)) rfl ?_ | refine w_regD (id := 13) (m := 29) progOk (by kernel_rfl) rfl rfl rfl rfl ?_ | refine s_step rfl rfl rfl rfl ?_ | (refine s_gFP rfl rfl rfl rfl rfl (ht := fun h => ?_) (hf := fun h => ?_) <;> try exact prn) | refine w_regAny (f := 4) progOk rfl rfl ?_ | refine any_0 (by decide +kernel) ?_ | refine any_1 (i := 0) (by decide +kernel) rfl ?_ | refine any_1 (i := 1) (by decide +kernel) rfl ?_ | refine any_1 (i := 2) (by decide +kernel) rfl ?_ | refine any_1 (i := 3) (by decide +kernel) rfl ?_ | refine any_2 (i := 0) (j := 1) (by decide +kernel) rfl rfl ?_ ?_ | refine any_2 (i := 1) (j := 2) (by decide +kernel) rfl rfl ?_ ?_ | refine w_call progOk rfl rfl rfl rfl rfl rfl rfl (ca) rfl rfl ?_ | refine w_call progOk rfl rfl rfl rfl rfl rfl rfl (cb) rfl rfl ?_ | refine s_call rfl rfl rfl rfl rfl (ka) rfl rfl ?_ | refine s_call rfl rfl rfl rfl rfl (kb) rfl rfl ?_ | refine s_call rfl rfl rfl rfl rfl (kp) rfl rfl ?_ | refine s_call rfl rfl rfl rfl rfl (kq) rfl rfl ?_ | refine s_call rfl rfl rfl rfl rfl (ks) rfl rfl ?_ | refine s_call rfl rfl rfl rfl rfl (kt) rfl rfl ?_ | fail)
        all_goals try exact absurd hbb (by assumption)
        all_goals refine w_next (i + 1, r.part, b2) ⟨hlt, hS, sa, sb⟩ (by simp; omega) [6, 7, 11] (sub_eq rfl rfl (sub_eq rfl rfl (sub_eq rfl rfl (sub_eq rfl rfl (sub_eq rfl (by rw [wrap64 (by omega) (by omega)]; rfl) sub_nil))))) rfl
    · have kca := check13_ok a hR.pa (by have := ta.rows; omega) (by have := ta.opens; omega)
      have kcb := check13_ok b hR.pb (by have := tb.rows; omega) (by have := tb.opens; omega)
      repeat' (first | refine w_step progOk rfl rfl rfl ?_ | refine w_nil ?_ | refine w_seq ?_ | refine w_reg progOk rfl rfl ?_ | (refine w_gTP rfl rfl rfl rfl rfl (ht := fun h => ?_) (hf := fun h => ?_) <;> try exact prn) | (refine w_condP rfl (ht := fun h => ?_) (hf := fun h => ?_) <;> try exact prn) | refine w_exit ?_ | refine w_ret ?_ | refine w_call progOk rfl rfl rfl rfl rfl rfl rfl (kca) rfl rfl ?_ | refine w_call progOk rfl rfl rfl rfl rfl rfl rfl (kcb) rfl rfl ?_ | refine w_call progOk rfl rfl rfl rfl rfl rfl rfl (wakes_ok) rfl rfl ?_ | fail)
      all_goals exact w_fin rfl (Sub.of_eq rfl))
theorem alike_ok (l : List Act2) : Ct Tryz.prog 6 [.t (.slice .any 9 (l.map encAct2))] [] (.t (.bool true)) [] := by
  cases hg : greatAs l with
  | true =>
    have cg := great17_ok l
    rw [hg] at cg
    refine ct0 progOk Tryz.func6 rfl false rfl rfl ?_
    repeat' (first | refine w_step progOk rfl rfl rfl ?_ | refine w_nil ?_ | refine w_seq ?_ | refine w_reg progOk rfl rfl ?_ | (refine w_condP rfl (ht := fun h => ?_) (hf := fun h => ?_) <;> try exact prn) | refine w_ret ?_ | refine w_call progOk rfl rfl rfl rfl rfl rfl rfl (cg) rfl rfl ?_ | refine w_call progOk rfl rfl rfl rfl rfl rfl rfl (wakes_ok) rfl rfl ?_ | fail)
    all_goals exact w_fin rfl (Sub.of_eq rfl)
  | false => exact alike_walk l hg
end Go.Proofs.YtpdmaenhenfofaaGreatDoor
