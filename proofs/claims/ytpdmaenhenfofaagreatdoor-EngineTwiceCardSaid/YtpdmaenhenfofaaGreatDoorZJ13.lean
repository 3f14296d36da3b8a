/- Contracts and laws, joined: Qz, Ta, Ld. No condition beside those that each theorem names. -/
import Derived.Test.YtpdmaenhenfofaaGreatDoorZM10
import Derived.Test.YtpdmaenhenfofaaGreatDoorZJ11
import Derived.Test.YtpdmaenhenfofaaGreatDoorZJ9
import Derived.Test.YtpdmaenhenfofaaGreatDoorZM11
import Derived.Test.YtpdmaenhenfofaaGreatDoorZJ12
set_option linter.unusedVariables false
set_option linter.unusedSimpArgs false
namespace Go.Proofs.YtpdmaenhenfofaaGreatDoor
open Go.Am
attribute [local irreducible] Decidable.decide
set_option maxRecDepth 100000
set_option maxHeartbeats 1000000
theorem sameBs_ok (l : List Batch) (hl : l.length ≤ 1000000) (hs : ∀ b ∈ l, b.recs.length ≤ 1000000) : Ct Tryz.prog 41 [.t (.slice .any 5 (l.map encBatch)), .t (.slice .any 5 (l.map encBatch))] [] (.t (.bool true)) [] := by
  have hlm : (l.map encBatch).length = l.length := List.length_map ..
  refine ct0 progOk Tryz.func41 rfl false rfl rfl ?_
  repeat' (first | refine w_step progOk rfl rfl rfl ?_ | refine w_nil ?_ | refine w_seq ?_ | refine w_reg progOk rfl rfl ?_ | (refine w_condP rfl (ht := fun h => ?_) (hf := fun h => ?_) <;> try exact prn) | refine w_block ?_ | refine w_skip ?_ | fail)
  refine w_loop (ι := Nat) (fun i => i ≤ l.length) (fun i => [(0, .t (.slice .any 5 (l.map encBatch))), (1, .t (.slice .any 5 (l.map encBatch))), (5, .t (.int .i64 i))]) (fun _ => []) (fun i => l.length - i) 0 (by simp) ?_ ?_
  · exact at_of [] (sub_eq rfl rfl (sub_eq rfl rfl (sub_eq rfl rfl sub_nil))) rfl
  rintro i hi
  by_cases hlt : i < l.length
  · have hr : l[i]? = some l[i] := List.getElem?_eq_getElem hlt
    have hb := hs l[i] (List.getElem_mem hlt)
    generalize l[i] = r at hr hb
    have cb := same6_ok r r hb
    rw [decide_eq_true rfl] at cb
    repeat' (first | refine w_step progOk rfl rfl rfl ?_ | refine w_nil ?_ | refine w_seq ?_ | refine w_reg progOk rfl rfl ?_ | (refine w_condP rfl (ht := fun h => ?_) (hf := fun h => ?_) <;> try exact prn) | refine w_block ?_ | refine w_skip ?_ | refine w_regD (id := 6) (m := 8) progOk (by kernel_rfl) rfl rfl rfl rfl ?_ | refine s_step rfl rfl rfl rfl ?_ | refine s_nil ?_ | refine s_index rfl rfl rfl rfl rfl rfl rfl (map_get (by assumption)) rfl ?_ | refine w_call progOk rfl rfl rfl rfl rfl rfl rfl (cb) rfl rfl ?_ | fail)
    refine w_next (i + 1) hlt (by omega) [] (sub_eq rfl rfl (sub_eq rfl rfl (sub_eq rfl ?_ sub_nil))) rfl
    rw [wrap64 (by omega) (by omega)]; rfl
  · repeat' (first | refine w_step progOk rfl rfl rfl ?_ | refine w_nil ?_ | refine w_seq ?_ | refine w_reg progOk rfl rfl ?_ | (refine w_condP rfl (ht := fun h => ?_) (hf := fun h => ?_) <;> try exact prn) | refine w_exit ?_ | refine w_ret ?_ | fail)
    exact w_fin rfl (Sub.of_eq rfl)
theorem samePs_ok (l : List Prod) (hl : l.length ≤ 1000000) (hs : ∀ b ∈ l, b.seen.length ≤ 1000000) : Ct Tryz.prog 42 [.t (.slice .any 4 (l.map encProd)), .t (.slice .any 4 (l.map encProd))] [] (.t (.bool true)) [] := by
  have hlm : (l.map encProd).length = l.length := List.length_map ..
  refine ct0 progOk Tryz.func42 rfl false rfl rfl ?_
  repeat' (first | refine w_step progOk rfl rfl rfl ?_ | refine w_nil ?_ | refine w_seq ?_ | refine w_reg progOk rfl rfl ?_ | (refine w_condP rfl (ht := fun h => ?_) (hf := fun h => ?_) <;> try exact prn) | refine w_block ?_ | refine w_skip ?_ | fail)
  refine w_loop (ι := Nat) (fun i => i ≤ l.length) (fun i => [(0, .t (.slice .any 4 (l.map encProd))), (1, .t (.slice .any 4 (l.map encProd))), (5, .t (.int .i64 i))]) (fun _ => []) (fun i => l.length - i) 0 (by simp) ?_ ?_
  · exact at_of [] (sub_eq rfl rfl (sub_eq rfl rfl (sub_eq rfl rfl sub_nil))) rfl
  rintro i hi
  by_cases hlt : i < l.length
  · have hr : l[i]? = some l[i] := List.getElem?_eq_getElem hlt
    have hb := hs l[i] (List.getElem_mem hlt)
    generalize l[i] = r at hr hb
    have cb := sameProd7_ok r r hb
    rw [decide_eq_true rfl] at cb
    repeat' (first | refine w_step progOk rfl rfl rfl ?_ | refine w_nil ?_ | refine w_seq ?_ | refine w_reg progOk rfl rfl ?_ | (refine w_condP rfl (ht := fun h => ?_) (hf := fun h => ?_) <;> try exact prn) | refine w_block ?_ | refine w_skip ?_ | refine w_regD (id := 6) (m := 8) progOk (by kernel_rfl) rfl rfl rfl rfl ?_ | refine s_step rfl rfl rfl rfl ?_ | refine s_nil ?_ | refine s_index rfl rfl rfl rfl rfl rfl rfl (map_get (by assumption)) rfl ?_ | refine w_call progOk rfl rfl rfl rfl rfl rfl rfl (cb) rfl rfl ?_ | fail)
    refine w_next (i + 1) hlt (by omega) [] (sub_eq rfl rfl (sub_eq rfl rfl (sub_eq rfl ?_ sub_nil))) rfl
    rw [wrap64 (by omega) (by omega)]; rfl
  · repeat' (first | refine w_step progOk rfl rfl rfl ?_ | refine w_nil ?_ | refine w_seq ?_ | refine w_reg progOk rfl rfl ?_ | (refine w_condP rfl (ht := fun h => ?_) (hf := fun h => ?_) <;> try exact prn) | refine w_exit ?_ | refine w_ret ?_ | fail)
    exact w_fin rfl (Sub.of_eq rfl)
end Go.Proofs.YtpdmaenhenfofaaGreatDoor

namespace Go.Proofs.YtpdmaenhenfofaaGreatDoor
open Go.Am
attribute [local irreducible] Decidable.decide
set_option maxRecDepth 100000
set_option maxHeartbeats 1000000
theorem samePart_ok (p : Part) (hs : smallPart p) : Ct Tryz.prog 18 [.agg (liftT (encPart p)), .agg (liftT (encPart p))] [] (.t (.bool true)) [] := by
  obtain ⟨h1, h2, h3, h4, h5⟩ := hs
  have hlo : (p.opens.map encOpn).length = p.opens.length := List.length_map ..
  have cr := sameRows_ok p.rows p.rows (by omega)
  rw [decide_eq_true rfl] at cr
  have cp := samePs_ok p.prods h4 h5
  refine ct0 progOk Tryz.func18 rfl false rfl rfl ?_
  repeat' (first | refine w_step progOk rfl rfl rfl ?_ | refine w_nil ?_ | refine w_seq ?_ | refine w_reg progOk rfl rfl ?_ | (refine w_gFP rfl rfl rfl rfl rfl (ht := fun h => ?_) (hf := fun h => ?_) <;> try exact prn) | (refine w_condP rfl (ht := fun h => ?_) (hf := fun h => ?_) <;> try exact prn) | refine w_block ?_ | refine w_skip ?_ | refine w_call progOk rfl rfl rfl rfl rfl rfl rfl (cr) rfl rfl ?_ | fail)
  refine w_loop (ι := Nat) (fun i => i ≤ p.opens.length) (fun i => [(2, .ref 4 0), (3, .ref 6 0), (5, .t (.int .i64 i))]) (fun _ => [(6, .cells (liftT (encPart p))), (4, .cells (liftT (encPart p)))]) (fun i => p.opens.length - i) 0 (by simp) ?_ ?_
  · exact at_of [] (sub_eq rfl rfl (sub_eq rfl rfl (sub_eq rfl rfl sub_nil))) rfl
  rintro i hi
  by_cases hlt : i < p.opens.length
  · have hr : p.opens[i]? = some p.opens[i] := List.getElem?_eq_getElem hlt
    have hso := h3 p.opens[i] (List.getElem_mem hlt)
    generalize p.opens[i] = r at hr hso
    have cb := sameBs_ok r.batches hso.1 hso.2
    repeat' (first | refine w_stepZ progOk rfl rfl rfl rfl rfl ?_ | refine w_step progOk rfl rfl rfl ?_ | refine w_nil ?_ | refine w_seq ?_ | refine w_reg progOk rfl rfl ?_ | (refine w_gFP rfl rfl rfl rfl rfl (ht := fun h => ?_) (hf := fun h => ?_) <;> try exact prn) | (refine w_condP rfl (ht := fun h => ?_) (hf := fun h => ?_) <;> try exact prn) | refine w_block ?_ | refine w_skip ?_ | refine s_step rfl rfl rfl rfl ?_ | refine s_nil ?_ | refine s_index rfl rfl rfl rfl rfl rfl rfl (map_get (by assumption)) rfl ?_ | refine w_regSn progOk 12 10 (id := 6) (m := 13) (x0 := .agg (liftT (encOpn r))) (ys := liftT (encOpn r)) (by kernel_rfl) rfl rfl rfl rfl rfl rfl rfl rfl rfl rfl (by kernel_rfl) (by kernel_rfl) rfl rfl rfl rfl rfl (by kernel_rfl) ?_ rfl | refine ⟨rfl, rfl, ?_⟩ | refine w_call progOk rfl rfl rfl rfl rfl rfl rfl (cb) rfl rfl ?_ | fail)
    refine w_next (i + 1) hlt (by omega) [6, 7] (sub_eq rfl rfl (sub_eq rfl rfl (sub_eq rfl ?_ sub_nil))) rfl
    rw [wrap64 (by omega) (by omega)]; rfl
  · repeat' (first | refine w_step progOk rfl rfl rfl ?_ | refine w_nil ?_ | refine w_seq ?_ | refine w_reg progOk rfl rfl ?_ | (refine w_condP rfl (ht := fun h => ?_) (hf := fun h => ?_) <;> try exact prn) | refine w_exit ?_ | refine w_ret ?_ | refine w_call progOk rfl rfl rfl rfl rfl rfl rfl (cp) rfl rfl ?_ | fail)
    exact w_fin rfl (Sub.of_eq rfl)
end Go.Proofs.YtpdmaenhenfofaaGreatDoor

namespace Go.Proofs.YtpdmaenhenfofaaGreatDoor
open Go.Am
attribute [local irreducible] Decidable.decide
set_option maxRecDepth 100000
set_option maxHeartbeats 1000000
theorem refO_ne {p : Part} {b : Batch} {x : Bs × Int} (h : refO p b = some x) : x.2 ≠ 0 := by
  unfold refO at h
  split at h
  · cases h
  · split at h
    · cases h; decide
    · split at h
      · cases h; decide
      · split at h
        · cases h; decide
        · cases h
theorem refC_ne {p : Part} {b : Batch} {x : Bs × Int} (h : refC p b = some x) : x.2 ≠ 0 := by
  unfold refC at h
  split at h
  · rename_i y hy; cases h; exact refO_ne hy
  · split at h
    · cases h; decide
    · cases h
def oneP (p : Part) (b : Batch) : Part := if b.txn = true then txnP p b else plainP p b
def baseP (p : Part) (b : Batch) : Int := if b.txn = true then -1 else p.fin
def wrsP (e q : Int) (b : Batch) : List Wr := if b.txn = true then putW (placeN e q b) [entD b] else putW (logN e q) [entD b]
/- what Produce comes to where it is no error -/
theorem prod_ok {e q : Int} {p : Part} {b : Batch} (h : (Produce e q p b).e = 0) : badOf e q p = false ∧ mayBatch b = true ∧ ckErr p.prods b = 0 ∧ ((ckIs p.prods b = true ∧ Produce e q p b = ⟨p, ckBase p.prods b, [], 0⟩) ∨ (ckIs p.prods b = false ∧ refC p b = none ∧ Produce e q p b = ⟨oneP p b, baseP p b, wrsP e q b, 0⟩)) := by
  unfold Produce at h
  split at h
  · simp at h
  · rename_i hn
    have h1 : badOf e q p = false := by
      cases hb : badOf e q p with
      | false => rfl
      | true => exact absurd (.inl hb) hn
    have h2 : mayBatch b = true := by
      cases hb : mayBatch b with
      | true => rfl
      | false => exact absurd (.inr hb) hn
    refine ⟨h1, h2, ?_⟩
    by_cases hc : ckErr p.prods b = 0
    · refine ⟨hc, ?_⟩
      cases hi : ckIs p.prods b with
      | true => exact .inl ⟨rfl, by simp [Produce, h1, h2, prodR, hc, hi]⟩
      | false =>
        cases hr : refC p b with
        | none =>
          refine .inr ⟨rfl, rfl, ?_⟩
          cases ht : b.txn <;> simp [Produce, h1, h2, prodR, hc, hi, hr, ht, oneP, baseP, wrsP]
        | some x =>
          exfalso
          simp [prodR, hc, hi, hr] at h
          exact refC_ne hr h
    · exfalso
      simp [prodR, hc] at h
theorem prod_of {e q : Int} {p : Part} {b : Batch} (h1 : badOf e q p = false) (h2 : mayBatch b = true) (hc : ckErr p.prods b = 0) : Produce e q p b = if ckIs p.prods b = true then ⟨p, ckBase p.prods b, [], 0⟩ else match refC p b with
    | some x => ⟨partZ, 0, [], x.2⟩
    | none => ⟨oneP p b, baseP p b, wrsP e q b, 0⟩ := by
  cases hi : ckIs p.prods b with
  | true => simp [Produce, h1, h2, prodR, hc, hi]
  | false =>
    cases hr : refC p b with
    | none => cases ht : b.txn <;> simp [Produce, h1, h2, prodR, hc, hi, hr, ht, oneP, baseP, wrsP]
    | some x => simp [Produce, h1, h2, prodR, hc, hi, hr]
end Go.Proofs.YtpdmaenhenfofaaGreatDoor
