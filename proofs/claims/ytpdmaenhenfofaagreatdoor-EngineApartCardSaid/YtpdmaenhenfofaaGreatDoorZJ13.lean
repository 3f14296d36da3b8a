/- Contracts and laws, joined: Qz, Ta, Ld. No condition beside those that each theorem names. -/
import Derived.Test.YtpdmaenhenfofaaGreatDoorZM10
import Derived.Test.YtpdmaenhenfofaaGreatDoorZJ11
import Derived.Test.YtpdmaenhenfofaaGreatDoorZJ9
import Derived.Test.YtpdmaenhenfofaaGreatDoorZM11
import Derived.Test.YtpdmaenhenfofaaGreatDoorZJ12
set_option linter.unusedVariables false
set_option linter.unusedSimpArgs false
namespace Go.Proofs.YtpdmaenhenfofaaGreatDoor
open Go.Am
attribute [local irreducible] Decidable.decide
set_option maxRecDepth 100000
set_option maxHeartbeats 1000000
def greatRow (r : Row) : Bool := decide (200 < (r.key.length : Int)) || decide (200 < (r.value.length : Int))
def greatRows (l : List Row) : Bool := decide (300 < (l.length : Int)) || l.any greatRow
def greatProd (x : Prod) : Bool := decide (40 < (x.seen.length : Int))
def greatP (p : Part) : Bool := (greatRows p.rows || decide (40 < (p.opens.length : Int)) || decide (40 < (p.prods.length : Int))) || (p.opens.any (fun o => greatBs o.batches) || p.prods.any greatProd)
theorem greatRows_ok (l : List Row) : Ct Tryz.prog 40 [.t (.slice .any 5 (l.map encRow))] [] (.t (.bool (greatRows l))) [] := by
  refine ct0 progOk Tryz.func40 rfl false rfl rfl ?_
  have hlm : (l.map encRow).length = l.length := List.length_map ..
  repeat' (first | refine w_step progOk rfl rfl rfl ?_ | refine w_nil ?_ | refine w_seq ?_ | refine w_reg progOk rfl rfl ?_ | (refine w_condP rfl (ht := fun h => ?_) (hf := fun h => ?_) <;> try exact prn) | refine w_block ?_ | refine w_skip ?_ | refine w_ret ?_ | fail)
  · refine w_fin rfl (subB ?_); rw [hlm] at h; simp [greatRows, h]
  have hg : decide (300 < (l.length : Int)) = false := decide_eq_false (by omega)
  refine w_loop (ι := Nat) (fun i => i ≤ l.length ∧ (l.take i).any greatRow = false) (fun i => [(0, .t (.slice .any 5 (l.map encRow))), (3, .t (.int .i64 i))]) (fun _ => []) (fun i => l.length - i) 0 (by simp) ?_ ?_
  · exact at_of [] (sub_eq rfl rfl (sub_eq rfl rfl sub_nil)) rfl
  rintro i ⟨hi, hany⟩
  by_cases hlt : i < l.length
  · have hr : l[i]? = some l[i] := List.getElem?_eq_getElem hlt
    generalize l[i] = r at hr
    repeat' (first | refine w_step progOk rfl rfl rfl ?_ | refine w_nil ?_ | refine w_seq ?_ | refine w_reg progOk rfl rfl ?_ | (refine w_gFP rfl rfl rfl rfl rfl (ht := fun h => ?_) (hf := fun h => ?_) <;> try exact prn) | (refine w_condP rfl (ht := fun h => ?_) (hf := fun h => ?_) <;> try exact prn) | refine w_block ?_ | refine w_skip ?_ | refine w_ret ?_ | refine w_index progOk rfl rfl rfl rfl rfl rfl rfl (map_get (by assumption)) rfl ?_ | fail)
    all_goals first
      | (refine w_next (i + 1) ⟨hlt, any_take_succ hr hany (by simp [greatRow]; omega)⟩ (by omega) [] (sub_eq rfl rfl (sub_eq rfl ?_ sub_nil)) rfl
         rw [wrap64 (by omega) (by omega)]; rfl)
      | (refine w_fin rfl (subB ?_)
         have hgc : greatRow r = true := by simp [greatRow]; omega
         simp [greatRows, hg, any_of_get hr hgc])
  · repeat' (first | refine w_step progOk rfl rfl rfl ?_ | refine w_nil ?_ | refine w_seq ?_ | refine w_reg progOk rfl rfl ?_ | (refine w_condP rfl (ht := fun h => ?_) (hf := fun h => ?_) <;> try exact prn) | refine w_exit ?_ | refine w_ret ?_ | fail)
    exact w_fin rfl (subB (by simp [greatRows, hg, any_take_all (by omega) hany]))
theorem greatP_ok (p : Part) : Ct Tryz.prog 17 [.agg (liftT (encPart p))] [] (.t (.bool (greatP p))) [] := by
  have cg := greatRows_ok p.rows
  have hlo : (p.opens.map encOpn).length = p.opens.length := List.length_map ..
  have hlp : (p.prods.map encProd).length = p.prods.length := List.length_map ..
  refine ct0 progOk Tryz.func17 rfl false rfl rfl ?_
  by_cases h0 : (greatRows p.rows || decide (40 < (p.opens.length : Int)) || decide (40 < (p.prods.length : Int))) = true
  · have hT : greatP p = true := by simp only [greatP, h0, Bool.true_or]
    rw [hT]
    cases hg : greatRows p.rows with
    | true =>
      rw [hg] at cg
      repeat' (first | refine w_step progOk rfl rfl rfl ?_ | refine w_nil ?_ | refine w_seq ?_ | refine w_reg progOk rfl rfl ?_ | (refine w_gFP rfl rfl rfl rfl rfl (ht := fun h => ?_) (hf := fun h => ?_) <;> try exact prn) | (refine w_condP rfl (ht := fun h => ?_) (hf := fun h => ?_) <;> try exact prn) | refine w_ret ?_ | refine w_call progOk rfl rfl rfl rfl rfl rfl rfl (cg) rfl rfl ?_ | fail)
      all_goals exact w_fin rfl (Sub.of_eq rfl)
    | false =>
      rw [hg] at cg h0
      simp only [Bool.false_or, Bool.or_eq_true, decide_eq_true_eq] at h0
      repeat' (first | refine w_step progOk rfl rfl rfl ?_ | refine w_nil ?_ | refine w_seq ?_ | refine w_reg progOk rfl rfl ?_ | (refine w_gFP rfl rfl rfl rfl rfl (ht := fun h => ?_) (hf := fun h => ?_) <;> try exact prn) | (refine w_condP rfl (ht := fun h => ?_) (hf := fun h => ?_) <;> try exact prn) | refine w_ret ?_ | refine w_call progOk rfl rfl rfl rfl rfl rfl rfl (cg) rfl rfl ?_ | fail)
      all_goals first
        | exact w_fin rfl (Sub.of_eq rfl)
        | (exfalso; omega)
  · have h0' : (greatRows p.rows || decide (40 < (p.opens.length : Int)) || decide (40 < (p.prods.length : Int))) = false := by simpa using h0
    simp only [Bool.or_eq_false_iff, decide_eq_false_iff_not] at h0'
    obtain ⟨⟨hg, ho⟩, hp⟩ := h0'
    have hF : greatP p = (p.opens.any (fun o => greatBs o.batches) || p.prods.any greatProd) := by simp only [greatP, hg, decide_eq_false ho, decide_eq_false hp, Bool.false_or, Bool.or_self]
    rw [hF]
    rw [hg] at cg
    repeat' (first | refine w_step progOk rfl rfl rfl ?_ | refine w_nil ?_ | refine w_seq ?_ | refine w_reg progOk rfl rfl ?_ | (refine w_gFP rfl rfl rfl rfl rfl (ht := fun h => ?_) (hf := fun h => ?_) <;> try exact prn) | (refine w_condP rfl (ht := fun h => ?_) (hf := fun h => ?_) <;> try exact prn) | refine w_block ?_ | refine w_skip ?_ | refine w_call progOk rfl rfl rfl rfl rfl rfl rfl (cg) rfl rfl ?_ | fail)
    all_goals try (exfalso; omega)
    refine w_loop (ι := Nat) (fun i => i ≤ p.opens.length ∧ (p.opens.take i).any (fun o => greatBs o.batches) = false) (fun i => [(1, .ref 2 0), (3, .t (.int .i64 i))]) (fun _ => [(2, .cells (liftT (encPart p)))]) (fun i => p.opens.length - i) 0 (by simp) ?_ ?_
    · exact at_of [] (sub_eq rfl rfl (sub_eq rfl rfl sub_nil)) rfl
    rintro i ⟨hi, hany⟩
    by_cases hlt : i < p.opens.length
    · have hr : p.opens[i]? = some p.opens[i] := List.getElem?_eq_getElem hlt
      generalize p.opens[i] = r at hr
      have cb := greatBs_ok r.batches
      cases hb : greatBs r.batches with
      | true =>
        rw [hb] at cb
        repeat' (first | refine w_step progOk rfl rfl rfl ?_ | refine w_nil ?_ | refine w_seq ?_ | refine w_reg progOk rfl rfl ?_ | (refine w_condP rfl (ht := fun h => ?_) (hf := fun h => ?_) <;> try exact prn) | refine w_block ?_ | refine w_skip ?_ | refine w_ret ?_ | refine w_index progOk rfl rfl rfl rfl rfl rfl rfl (map_get (by assumption)) rfl ?_ | refine w_call progOk rfl rfl rfl rfl rfl rfl rfl (cb) rfl rfl ?_ | fail)
        refine w_fin rfl (subB ?_)
        simp [any_of_get hr (p := fun o => greatBs o.batches) hb]
      | false =>
        rw [hb] at cb
        repeat' (first | refine w_step progOk rfl rfl rfl ?_ | refine w_nil ?_ | refine w_seq ?_ | refine w_reg progOk rfl rfl ?_ | (refine w_condP rfl (ht := fun h => ?_) (hf := fun h => ?_) <;> try exact prn) | refine w_block ?_ | refine w_skip ?_ | refine w_index progOk rfl rfl rfl rfl rfl rfl rfl (map_get (by assumption)) rfl ?_ | refine w_call progOk rfl rfl rfl rfl rfl rfl rfl (cb) rfl rfl ?_ | fail)
        refine w_next (i + 1) ⟨hlt, any_take_succ hr hany hb⟩ (by omega) [] (sub_eq rfl rfl (sub_eq rfl ?_ sub_nil)) rfl
        rw [wrap64 (by omega) (by omega)]; rfl
    · have hno : p.opens.any (fun o => greatBs o.batches) = false := any_take_all (by omega) hany
      rw [hno]
      repeat' (first | refine w_step progOk rfl rfl rfl ?_ | refine w_nil ?_ | refine w_seq ?_ | refine w_reg progOk rfl rfl ?_ | (refine w_condP rfl (ht := fun h => ?_) (hf := fun h => ?_) <;> try exact prn) | refine w_block ?_ | refine w_exit ?_ | fail)
      refine w_loop (ι := Nat) (fun i => i ≤ p.prods.length ∧ (p.prods.take i).any greatProd = false) (fun i => [(1, .ref 2 0), (4, .t (.int .i64 i))]) (fun _ => [(2, .cells (liftT (encPart p)))]) (fun i => p.prods.length - i) 0 (by simp) ?_ ?_
      · exact at_of [] (sub_eq rfl rfl (sub_eq rfl rfl sub_nil)) rfl
      rintro j ⟨hj, hanj⟩
      by_cases hlj : j < p.prods.length
      · have hr : p.prods[j]? = some p.prods[j] := List.getElem?_eq_getElem hlj
        generalize p.prods[j] = r at hr
        have hls : (r.seen.map encSeen).length = r.seen.length := List.length_map ..
        repeat' (first | refine w_step progOk rfl rfl rfl ?_ | refine w_nil ?_ | refine w_seq ?_ | refine w_reg progOk rfl rfl ?_ | (refine w_condP rfl (ht := fun h => ?_) (hf := fun h => ?_) <;> try exact prn) | refine w_block ?_ | refine w_skip ?_ | refine w_ret ?_ | refine w_index progOk rfl rfl rfl rfl rfl rfl rfl (map_get (by assumption)) rfl ?_ | fail)
        all_goals first
          | (refine w_next (j + 1) ⟨hlj, any_take_succ hr hanj (by simp [greatProd]; omega)⟩ (by omega) [] (sub_eq rfl rfl (sub_eq rfl ?_ sub_nil)) rfl
             rw [wrap64 (by omega) (by omega)]; rfl)
          | (refine w_fin rfl (subB ?_)
             have hgc : greatProd r = true := by simp [greatProd]; omega
             simp [any_of_get hr hgc])
      · repeat' (first | refine w_step progOk rfl rfl rfl ?_ | refine w_nil ?_ | refine w_seq ?_ | refine w_reg progOk rfl rfl ?_ | (refine w_condP rfl (ht := fun h => ?_) (hf := fun h => ?_) <;> try exact prn) | refine w_exit ?_ | refine w_ret ?_ | fail)
        exact w_fin rfl (subB (by simp [any_take_all (by omega) hanj]))
theorem sameBs_ok (l : List Batch) (hl : l.length ≤ 1000000) (hs : ∀ b ∈ l, b.recs.length ≤ 1000000) : Ct Tryz.prog 41 [.t (.slice .any 5 (l.map encBatch)), .t (.slice .any 5 (l.map encBatch))] [] (.t (.bool true)) [] := by
  have hlm : (l.map encBatch).length = l.length := List.length_map ..
  refine ct0 progOk Tryz.func41 rfl false rfl rfl ?_
  repeat' (first | refine w_step progOk rfl rfl rfl ?_ | refine w_nil ?_ | refine w_seq ?_ | refine w_reg progOk rfl rfl ?_ | (refine w_condP rfl (ht := fun h => ?_) (hf := fun h => ?_) <;> try exact prn) | refine w_block ?_ | refine w_skip ?_ | fail)
  refine w_loop (ι := Nat) (fun i => i ≤ l.length) (fun i => [(0, .t (.slice .any 5 (l.map encBatch))), (1, .t (.slice .any 5 (l.map encBatch))), (5, .t (.int .i64 i))]) (fun _ => []) (fun i => l.length - i) 0 (by simp) ?_ ?_
  · exact at_of [] (sub_eq rfl rfl (sub_eq rfl rfl (sub_eq rfl rfl sub_nil))) rfl
  rintro i hi
  by_cases hlt : i < l.length
  · have hr : l[i]? = some l[i] := List.getElem?_eq_getElem hlt
    have hb := hs l[i] (List.getElem_mem hlt)
    generalize l[i] = r at hr hb
    have cb := same6_ok r r hb
    rw [decide_eq_true rfl] at cb
    repeat' (first | refine w_step progOk rfl rfl rfl ?_ | refine w_nil ?_ | refine w_seq ?_ | refine w_reg progOk rfl rfl ?_ | (refine w_condP rfl (ht := fun h => ?_) (hf := fun h => ?_) <;> try exact prn) | refine w_block ?_ | refine w_skip ?_ | refine w_regD (id := 6) (m := 8) progOk (by kernel_rfl) rfl rfl rfl rfl ?_ | refine s_step rfl rfl rfl rfl ?_ | refine s_nil ?_ | refine s_index rfl rfl rfl rfl rfl rfl rfl (map_get (by assumption)) rfl ?_ | refine w_call progOk rfl rfl rfl rfl rfl rfl rfl (cb) rfl rfl ?_ | fail)
    refine w_next (i + 1) hlt (by omega) [] (sub_eq rfl rfl (sub_eq rfl rfl (sub_eq rfl ?_ sub_nil))) rfl
    rw [wrap64 (by omega) (by omega)]; rfl
  · repeat' (first | refine w_step progOk rfl rfl rfl ?_ | refine w_nil ?_ | refine w_seq ?_ | refine w_reg progOk rfl rfl ?_ | (refine w_condP rfl (ht := fun h => ?_) (hf := fun h => ?_) <;> try exact prn) | refine w_exit ?_ | refine w_ret ?_ | fail)
    exact w_fin rfl (Sub.of_eq rfl)
theorem samePs_ok (l : List Prod) (hl : l.length ≤ 1000000) (hs : ∀ b ∈ l, b.seen.length ≤ 1000000) : Ct Tryz.prog 42 [.t (.slice .any 4 (l.map encProd)), .t (.slice .any 4 (l.map encProd))] [] (.t (.bool true)) [] := by
  have hlm : (l.map encProd).length = l.length := List.length_map ..
  refine ct0 progOk Tryz.func42 rfl false rfl rfl ?_
  repeat' (first | refine w_step progOk rfl rfl rfl ?_ | refine w_nil ?_ | refine w_seq ?_ | refine w_reg progOk rfl rfl ?_ | (refine w_condP rfl (ht := fun h => ?_) (hf := fun h => ?_) <;> try exact prn) | refine w_block ?_ | refine w_skip ?_ | fail)
  refine w_loop (ι := Nat) (fun i => i ≤ l.length) (fun i => [(0, .t (.slice .any 4 (l.map encProd))), (1, .t (.slice .any 4 (l.map encProd))), (5, .t (.int .i64 i))]) (fun _ => []) (fun i => l.length - i) 0 (by simp) ?_ ?_
  · exact at_of [] (sub_eq rfl rfl (sub_eq rfl rfl (sub_eq rfl rfl sub_nil))) rfl
  rintro i hi
  by_cases hlt : i < l.length
  · have hr : l[i]? = some l[i] := List.getElem?_eq_getElem hlt
    have hb := hs l[i] (List.getElem_mem hlt)
    generalize l[i] = r at hr hb
    have cb := sameProd7_ok r r hb
    rw [decide_eq_true rfl] at cb
    repeat' (first | refine w_step progOk rfl rfl rfl ?_ | refine w_nil ?_ | refine w_seq ?_ | refine w_reg progOk rfl rfl ?_ | (refine w_condP rfl (ht := fun h => ?_) (hf := fun h => ?_) <;> try exact prn) | refine w_block ?_ | refine w_skip ?_ | refine w_regD (id := 6) (m := 8) progOk (by kernel_rfl) rfl rfl rfl rfl ?_ | refine s_step rfl rfl rfl rfl ?_ | refine s_nil ?_ | refine s_index rfl rfl rfl rfl rfl rfl rfl (map_get (by assumption)) rfl ?_ | refine w_call progOk rfl rfl rfl rfl rfl rfl rfl (cb) rfl rfl ?_ | fail)
    refine w_next (i + 1) hlt (by omega) [] (sub_eq rfl rfl (sub_eq rfl rfl (sub_eq rfl ?_ sub_nil))) rfl
    rw [wrap64 (by omega) (by omega)]; rfl
  · repeat' (first | refine w_step progOk rfl rfl rfl ?_ | refine w_nil ?_ | refine w_seq ?_ | refine w_reg progOk rfl rfl ?_ | (refine w_condP rfl (ht := fun h => ?_) (hf := fun h => ?_) <;> try exact prn) | refine w_exit ?_ | refine w_ret ?_ | fail)
    exact w_fin rfl (Sub.of_eq rfl)
end Go.Proofs.YtpdmaenhenfofaaGreatDoor

namespace Go.Proofs.YtpdmaenhenfofaaGreatDoor
open Go.Am
attribute [local irreducible] Decidable.decide
set_option maxRecDepth 100000
set_option maxHeartbeats 1000000
theorem samePart_ok (p : Part) (hs : smallPart p) : Ct Tryz.prog 18 [.agg (liftT (encPart p)), .agg (liftT (encPart p))] [] (.t (.bool true)) [] := by
  obtain ⟨h1, h2, h3, h4, h5⟩ := hs
  have hlo : (p.opens.map encOpn).length = p.opens.length := List.length_map ..
  have cr := sameRows_ok p.rows p.rows (by omega)
  rw [decide_eq_true rfl] at cr
  have cp := samePs_ok p.prods h4 h5
  refine ct0 progOk Tryz.func18 rfl false rfl rfl ?_
  repeat' (first | refine w_step progOk rfl rfl rfl ?_ | refine w_nil ?_ | refine w_seq ?_ | refine w_reg progOk rfl rfl ?_ | (refine w_gFP rfl rfl rfl rfl rfl (ht := fun h => ?_) (hf := fun h => ?_) <;> try exact prn) | (refine w_condP rfl (ht := fun h => ?_) (hf := fun h => ?_) <;> try exact prn) | refine w_block ?_ | refine w_skip ?_ | refine w_call progOk rfl rfl rfl rfl rfl rfl rfl (cr) rfl rfl ?_ | fail)
  refine w_loop (ι := Nat) (fun i => i ≤ p.opens.length) (fun i => [(2, .ref 4 0), (3, .ref 6 0), (5, .t (.int .i64 i))]) (fun _ => [(6, .cells (liftT (encPart p))), (4, .cells (liftT (encPart p)))]) (fun i => p.opens.length - i) 0 (by simp) ?_ ?_
  · exact at_of [] (sub_eq rfl rfl (sub_eq rfl rfl (sub_eq rfl rfl sub_nil))) rfl
  rintro i hi
  by_cases hlt : i < p.opens.length
  · have hr : p.opens[i]? = some p.opens[i] := List.getElem?_eq_getElem hlt
    have hso := h3 p.opens[i] (List.getElem_mem hlt)
    generalize p.opens[i] = r at hr hso
    have cb := sameBs_ok r.batches hso.1 hso.2
    repeat' (first | refine w_stepZ progOk rfl rfl rfl rfl rfl ?_ | refine w_step progOk rfl rfl rfl ?_ | refine w_nil ?_ | refine w_seq ?_ | refine w_reg progOk rfl rfl ?_ | (refine w_gFP rfl rfl rfl rfl rfl (ht := fun h => ?_) (hf := fun h => ?_) <;> try exact prn) | (refine w_condP rfl (ht := fun h => ?_) (hf := fun h => ?_) <;> try exact prn) | refine w_block ?_ | refine w_skip ?_ | refine s_step rfl rfl rfl rfl ?_ | refine s_nil ?_ | refine s_index rfl rfl rfl rfl rfl rfl rfl (map_get (by assumption)) rfl ?_ | refine w_regSn progOk 12 10 (id := 6) (m := 13) (x0 := .agg (liftT (encOpn r))) (ys := liftT (encOpn r)) (by kernel_rfl) rfl rfl rfl rfl rfl rfl rfl rfl rfl rfl (by kernel_rfl) (by kernel_rfl) rfl rfl rfl rfl rfl (by kernel_rfl) ?_ rfl | refine ⟨rfl, rfl, ?_⟩ | refine w_call progOk rfl rfl rfl rfl rfl rfl rfl (cb) rfl rfl ?_ | fail)
    refine w_next (i + 1) hlt (by omega) [6, 7] (sub_eq rfl rfl (sub_eq rfl rfl (sub_eq rfl ?_ sub_nil))) rfl
    rw [wrap64 (by omega) (by omega)]; rfl
  · repeat' (first | refine w_step progOk rfl rfl rfl ?_ | refine w_nil ?_ | refine w_seq ?_ | refine w_reg progOk rfl rfl ?_ | (refine w_condP rfl (ht := fun h => ?_) (hf := fun h => ?_) <;> try exact prn) | refine w_exit ?_ | refine w_ret ?_ | refine w_call progOk rfl rfl rfl rfl rfl rfl rfl (cp) rfl rfl ?_ | fail)
    exact w_fin rfl (Sub.of_eq rfl)
end Go.Proofs.YtpdmaenhenfofaaGreatDoor

namespace Go.Proofs.YtpdmaenhenfofaaGreatDoor
open Go.Am
attribute [local irreducible] Decidable.decide
set_option maxRecDepth 100000
set_option maxHeartbeats 1000000
theorem refO_ne {p : Part} {b : Batch} {x : Bs × Int} (h : refO p b = some x) : x.2 ≠ 0 := by
  unfold refO at h
  split at h
  · cases h
  · split at h
    · cases h; decide
    · split at h
      · cases h; decide
      · split at h
        · cases h; decide
        · cases h
theorem refC_ne {p : Part} {b : Batch} {x : Bs × Int} (h : refC p b = some x) : x.2 ≠ 0 := by
  unfold refC at h
  split at h
  · rename_i y hy; cases h; exact refO_ne hy
  · split at h
    · cases h; decide
    · cases h
def oneP (p : Part) (b : Batch) : Part := if b.txn = true then txnP p b else plainP p b
def baseP (p : Part) (b : Batch) : Int := if b.txn = true then -1 else p.fin
def wrsP (e q : Int) (b : Batch) : List Wr := if b.txn = true then putW (placeN e q b) [entD b] else putW (logN e q) [entD b]
/- what Produce comes to where it is no error -/
theorem prod_ok {e q : Int} {p : Part} {b : Batch} (h : (Produce e q p b).e = 0) : badOf e q p = false ∧ mayBatch b = true ∧ ckErr p.prods b = 0 ∧ ((ckIs p.prods b = true ∧ Produce e q p b = ⟨p, ckBase p.prods b, [], 0⟩) ∨ (ckIs p.prods b = false ∧ refC p b = none ∧ Produce e q p b = ⟨oneP p b, baseP p b, wrsP e q b, 0⟩)) := by
  unfold Produce at h
  split at h
  · simp at h
  · rename_i hn
    have h1 : badOf e q p = false := by
      cases hb : badOf e q p with
      | false => rfl
      | true => exact absurd (.inl hb) hn
    have h2 : mayBatch b = true := by
      cases hb : mayBatch b with
      | true => rfl
      | false => exact absurd (.inr hb) hn
    refine ⟨h1, h2, ?_⟩
    by_cases hc : ckErr p.prods b = 0
    · refine ⟨hc, ?_⟩
      cases hi : ckIs p.prods b with
      | true => exact .inl ⟨rfl, by simp [Produce, h1, h2, prodR, hc, hi]⟩
      | false =>
        cases hr : refC p b with
        | none =>
          refine .inr ⟨rfl, rfl, ?_⟩
          cases ht : b.txn <;> simp [Produce, h1, h2, prodR, hc, hi, hr, ht, oneP, baseP, wrsP]
        | some x =>
          exfalso
          simp [prodR, hc, hi, hr] at h
          exact refC_ne hr h
    · exfalso
      simp [prodR, hc] at h
theorem prod_of {e q : Int} {p : Part} {b : Batch} (h1 : badOf e q p = false) (h2 : mayBatch b = true) (hc : ckErr p.prods b = 0) : Produce e q p b = if ckIs p.prods b = true then ⟨p, ckBase p.prods b, [], 0⟩ else match refC p b with
    | some x => ⟨partZ, 0, [], x.2⟩
    | none => ⟨oneP p b, baseP p b, wrsP e q b, 0⟩ := by
  cases hi : ckIs p.prods b with
  | true => simp [Produce, h1, h2, prodR, hc, hi]
  | false =>
    cases hr : refC p b with
    | none => cases ht : b.txn <;> simp [Produce, h1, h2, prodR, hc, hi, hr, ht, oneP, baseP, wrsP]
    | some x => simp [Produce, h1, h2, prodR, hc, hi, hr]
/- what another producer's batch leaves as it was -/
theorem ck_same {l l' : List Prod} {b : Batch} (hl : mayPs l = true) (hl' : mayPs l' = true) (h1 : hasP l' b.pid = hasP l b.pid) (h2 : findP l' b.pid = findP l b.pid) : ckErr l' b = ckErr l b ∧ ckIs l' b = ckIs l b ∧ ckBase l' b = ckBase l b := by
  have hc : curP l' b = curP l b := by simp [curP, h1, h2]
  have hf : fenced l' b = fenced l b := by simp [fenced, h1, h2]
  simp [ckErr, ckIs, ckBase, ckOk, hl, hl', chkErr, chkIs, chkBase, hc, hf]
theorem taken_apart {l : List Prod} {a b : Batch} {base : Int} (hl : mayPs l = true) (ha : mayBatch a = true) (hc : ckErr l a = 0) (hi : ckIs l a = false) (hb : -1 ≤ base ∧ base ≤ 1048576) (hne : a.pid ≠ b.pid) : hasP (tkRes l a base) b.pid = hasP l b.pid ∧ findP (tkRes l a base) b.pid = findP l b.pid := by
  have e : ¬ (takenP l a base).pid = b.pid := hne
  rw [tkRes_ok hc hi hb, hasP_set hl, findP_set hl]
  simp [e]
theorem takenP_same {l l' : List Prod} {b : Batch} {base : Int} (h : findP l' b.pid = findP l b.pid) : takenP l' b base = takenP l b base := by
  simp [takenP, keptS, h]
theorem openOf_apart {l : List Opn} {a b : Batch} (hs : Srt Opn.pid l) (hne : a.pid ≠ b.pid) : (insF Opn.pid (openOf l a) l).find? (fun o => decide (o.pid = b.pid)) = l.find? (fun o => decide (o.pid = b.pid)) := by
  rw [find_insF hs, if_neg (by rw [openOf_pid]; exact hne)]
theorem sum_split {f : Opn → Nat} {k : Int} : ∀ {l : List Opn}, (∀ o ∈ l, o.pid ≠ k) → (l.map f).sum = ((l.filter (fun y => decide (y.pid < k))).map f).sum + ((l.filter (fun y => decide (k < y.pid))).map f).sum
  | [], _ => by simp
  | a :: r, h => by
    have ih := sum_split (f := f) (k := k) (l := r) fun o ho => h o (by simp [ho])
    have ha := h a (by simp)
    simp only [List.map_cons, List.sum_cons, List.filter_cons, ih]
    by_cases h1 : a.pid < k
    · have h2 : ¬ k < a.pid := by omega
      simp only [h1, h2, decide_true, decide_false, if_true, Bool.false_eq_true, if_false, List.map_cons, List.sum_cons]; omega
    · have h2 : k < a.pid := by omega
      simp only [h1, h2, decide_true, decide_false, if_true, Bool.false_eq_true, if_false, List.map_cons, List.sum_cons]; omega
theorem sumO_join {l : List Opn} {b : Batch} (hs : Srt Opn.pid l) : sumO (insF Opn.pid (openOf l b) l) = sumO l + b.recs.length := by
  cases hf : l.find? (fun o => decide (o.pid = b.pid)) with
  | none =>
    have hno : ∀ o ∈ l, o.pid ≠ b.pid := fun o ho => by simpa using List.find?_eq_none.1 hf o ho
    have hx : openOf l b = ⟨b.pid, b.epoch, [b]⟩ := by simp [openOf, hf]
    rw [hx]
    unfold sumO insF
    rw [sum_split (f := fun o => sumB o.batches) hno]
    simp [sumB]; omega
  | some o =>
    obtain ⟨k, hk, _, _⟩ := find_idx hf
    have hx : openOf l b = { o with batches := o.batches ++ [b] } := by simp [openOf, hf]
    rw [hx, ← set_ins (x := { o with batches := o.batches ++ [b] }) hs hk rfl]
    have hlt := (List.getElem?_eq_some_iff.1 hk).1
    have hsp : l = l.take k ++ o :: l.drop (k + 1) := by rw [← drop_cons hk, List.take_append_drop]
    rw [List.set_eq_take_append_cons_drop, if_pos hlt]
    conv => rhs; rw [hsp]
    simp [sumO, sumB]; omega
theorem bad_of {e q : Int} {p p' : Part} (h : badOf e q p = false) (h' : POk p') : badOf e q p' = false := by
  obtain ⟨_, he, hq, _⟩ := of_good h
  simp [badOf, partOk_iff.2 h']; omega
theorem apart_law {e : Int} {p : Part} {a b : Batch} (hne : a.pid ≠ b.pid) (hta : a.txn = true) (htb : b.txn = true) (hx : (Produce e 0 p a).e = 0) (hy : (Produce e 0 p b).e = 0) :
    (Produce e 0 (Produce e 0 p a).part b).e = (Produce e 0 (Produce e 0 p b).part a).e ∧ ((Produce e 0 (Produce e 0 p a).part b).e = 0 → (Produce e 0 p a).base = (Produce e 0 (Produce e 0 p b).part a).base ∧ (Produce e 0 p b).base = (Produce e 0 (Produce e 0 p a).part b).base ∧ (Produce e 0 (Produce e 0 p a).part b).part = (Produce e 0 (Produce e 0 p b).part a).part) := by
  obtain ⟨hbad, hma, hca, hA⟩ := prod_ok hx
  obtain ⟨_, hmb, hcb, hB⟩ := prod_ok hy
  have hp := partOk_iff.1 (of_good hbad).2.2.2
  have hm1 : -1 ≤ (-1 : Int) ∧ (-1 : Int) ≤ 1048576 := ⟨by omega, by omega⟩
  -- behind one of the two, which is not there yet
  have side : ∀ {u v : Batch}, u.pid ≠ v.pid → u.txn = true → mayBatch u = true → mayBatch v = true → ckErr p.prods u = 0 → ckIs p.prods u = false → refC p u = none → ckErr p.prods v = 0 → POk (txnP p u) ∧ ckErr (txnP p u).prods v = 0 ∧ ckIs (txnP p u).prods v = ckIs p.prods v ∧ ckBase (txnP p u).prods v = ckBase p.prods v ∧ findP (txnP p u).prods v.pid = findP p.prods v.pid ∧ openOf (txnP p u).opens v = openOf p.opens v ∧ refO (txnP p u) v = refO p v ∧ endN (txnP p u) v = endN p v + u.recs.length := by
    intro u v hn htu hmu hmv hcu hiu hru hcv
    have hok := txn_ok hp hmu hcu hiu htu (refC_none hru)
    obtain ⟨q1, q2⟩ := taken_apart hp.may hmu hcu hiu hm1 hn
    obtain ⟨k1, k2, k3⟩ := ck_same hp.may hok.may q1 q2
    have hfo := openOf_apart (a := u) (b := v) hp.osrt hn
    refine ⟨hok, by rw [k1]; exact hcv, k2, k3, q2, ?_, ?_, ?_⟩
    · simp only [openOf, txnP] at hfo ⊢; rw [hfo]
    · simp only [refO, txnP] at hfo ⊢; rw [hfo]
    · simp only [endN, txnP]; rw [sumO_join hp.osrt]; simp; omega
  rcases hA with ⟨hia, hPa⟩ | ⟨hia, hra, hPa⟩
  · rcases hB with ⟨hib, hPb⟩ | ⟨hib, hrb, hPb⟩
    · simp [hPa, hPb]
    · have hob : oneP p b = txnP p b := by simp [oneP, htb]
      obtain ⟨hok, k1, k2, k3, _⟩ := side (Ne.symm hne) htb hmb hma hcb hib hrb hca
      have h2 : Produce e 0 (txnP p b) a = ⟨txnP p b, ckBase p.prods a, [], 0⟩ := by rw [prod_of (bad_of hbad hok) hma k1, k2, hia, k3]; rfl
      simp [hPa, hPb, hob, h2]
  · have hoa : oneP p a = txnP p a := by simp [oneP, hta]
    obtain ⟨hoka, ka1, ka2, ka3, ka4, ka5, ka6, ka7⟩ := side hne hta hma hmb hca hia hra hcb
    rcases hB with ⟨hib, hPb⟩ | ⟨hib, hrb, hPb⟩
    · have h2 : Produce e 0 (txnP p a) b = ⟨txnP p a, ckBase p.prods b, [], 0⟩ := by rw [prod_of (bad_of hbad hoka) hmb ka1, ka2, hib, ka3]; rfl
      simp [hPa, hPb, hoa, h2]
    · have hob : oneP p b = txnP p b := by simp [oneP, htb]
      obtain ⟨hokb, kb1, kb2, kb3, kb4, kb5, kb6, kb7⟩ := side (Ne.symm hne) htb hmb hma hcb hib hrb hca
      have hroa : refO p a = none := (refT2_nil (refC_none hra)).1
      have hrob : refO p b = none := (refT2_nil (refC_none hrb)).1
      have hend : endN (txnP p a) b = endN (txnP p b) a := by rw [ka7, kb7]; unfold endN; omega
      have hrc : ∀ z, refC (txnP p a) b = some z ↔ refC (txnP p b) a = some z := fun z => by
        unfold refC; rw [ka6, kb6, hroa, hrob]; simp only; rw [hend]
      have hx2 := prod_of (bad_of hbad hoka) hmb ka1
      have hy2 := prod_of (bad_of hbad hokb) hma kb1
      rw [ka2, hib] at hx2
      rw [kb2, hia] at hy2
      simp only [Bool.false_eq_true, if_false] at hx2 hy2
      rw [hPa, hPb]
      simp only [hoa, hob]
      cases hr1 : refC (txnP p a) b with
      | some z =>
        have hr2 := (hrc z).1 hr1
        rw [hr1] at hx2
        rw [hr2] at hy2
        simp only at hx2 hy2
        rw [hx2, hy2]
        exact ⟨rfl, fun h => absurd h (refC_ne hr1)⟩
      | none =>
        have hr2 : refC (txnP p b) a = none := by
          cases hh : refC (txnP p b) a with
          | none => rfl
          | some z => rw [(hrc z).2 hh] at hr1; cases hr1
        rw [hr1] at hx2
        rw [hr2] at hy2
        simp only at hx2 hy2
        rw [hx2, hy2]
        refine ⟨rfl, fun _ => ⟨by simp [baseP, hta], by simp [baseP, htb], ?_⟩⟩
        have hpa := mayPs_iff.1 hoka.may
        have hpb := mayPs_iff.1 hokb.may
        have hps := mayPs_iff.1 hp.may
        have e1 : tkRes (txnP p a).prods b (-1) = insF Prod.pid (takenP p.prods b (-1)) (insF Prod.pid (takenP p.prods a (-1)) p.prods) := by
          rw [tkRes_ok ka1 (by rw [ka2]; exact hib) hm1, setS_ins hpa.1, takenP_same ka4]
          congr 1
          show tkRes p.prods a (-1) = _
          rw [tkRes_ok hca hia hm1, setS_ins hps.1]
        have e2 : tkRes (txnP p b).prods a (-1) = insF Prod.pid (takenP p.prods a (-1)) (insF Prod.pid (takenP p.prods b (-1)) p.prods) := by
          rw [tkRes_ok kb1 (by rw [kb2]; exact hia) hm1, setS_ins hpb.1, takenP_same kb4]
          congr 1
          show tkRes p.prods b (-1) = _
          rw [tkRes_ok hcb hib hm1, setS_ins hps.1]
        have hpp : tkRes (txnP p a).prods b (-1) = tkRes (txnP p b).prods a (-1) := by
          rw [e1, e2]; exact insF_comm hps.1 (Ne.symm hne)
        have hoo : insF Opn.pid (openOf (txnP p a).opens b) (txnP p a).opens = insF Opn.pid (openOf (txnP p b).opens a) (txnP p b).opens := by
          rw [ka5, kb5]
          exact insF_comm hp.osrt (by rw [openOf_pid, openOf_pid]; exact Ne.symm hne)
        show oneP (txnP p a) b = oneP (txnP p b) a
        simp only [oneP, hta, htb, if_true]
        show (⟨p.start, p.fin, p.rows, insF Opn.pid (openOf (txnP p a).opens b) (txnP p a).opens, tkRes (txnP p a).prods b (-1)⟩ : Part) = ⟨p.start, p.fin, p.rows, insF Opn.pid (openOf (txnP p b).opens a) (txnP p b).opens, tkRes (txnP p b).prods a (-1)⟩
        rw [hpp, hoo]
end Go.Proofs.YtpdmaenhenfofaaGreatDoor
