/- Contracts and laws, joined: Qz, Ta, Ld. No condition beside those that each theorem names. -/
import Derived.Test.YtpdmaenhenfofaaGreatDoorZM10
import Derived.Test.YtpdmaenhenfofaaGreatDoorZJ11
import Derived.Test.YtpdmaenhenfofaaGreatDoorZJ9
import Derived.Test.YtpdmaenhenfofaaGreatDoorZM11
import Derived.Test.YtpdmaenhenfofaaGreatDoorZJ12
set_option linter.unusedVariables false
set_option linter.unusedSimpArgs false
namespace Go.Proofs.YtpdmaenhenfofaaGreatDoor
open Go.Am
attribute [local irreducible] Decidable.decide
set_option maxRecDepth 100000
set_option maxHeartbeats 1000000
theorem refO_ne {p : Part} {b : Batch} {x : Bs × Int} (h : refO p b = some x) : x.2 ≠ 0 := by
  unfold refO at h
  split at h
  · cases h
  · split at h
    · cases h; decide
    · split at h
      · cases h; decide
      · split at h
        · cases h; decide
        · cases h
theorem refC_ne {p : Part} {b : Batch} {x : Bs × Int} (h : refC p b = some x) : x.2 ≠ 0 := by
  unfold refC at h
  split at h
  · rename_i y hy; cases h; exact refO_ne hy
  · split at h
    · cases h; decide
    · cases h
def oneP (p : Part) (b : Batch) : Part := if b.txn = true then txnP p b else plainP p b
def baseP (p : Part) (b : Batch) : Int := if b.txn = true then -1 else p.fin
def wrsP (e q : Int) (b : Batch) : List Wr := if b.txn = true then putW (placeN e q b) [entD b] else putW (logN e q) [entD b]
/- what Produce comes to where it is no error -/
theorem prod_ok {e q : Int} {p : Part} {b : Batch} (h : (Produce e q p b).e = 0) : badOf e q p = false ∧ mayBatch b = true ∧ ckErr p.prods b = 0 ∧ ((ckIs p.prods b = true ∧ Produce e q p b = ⟨p, ckBase p.prods b, [], 0⟩) ∨ (ckIs p.prods b = false ∧ refC p b = none ∧ Produce e q p b = ⟨oneP p b, baseP p b, wrsP e q b, 0⟩)) := by
  unfold Produce at h
  split at h
  · simp at h
  · rename_i hn
    have h1 : badOf e q p = false := by
      cases hb : badOf e q p with
      | false => rfl
      | true => exact absurd (.inl hb) hn
    have h2 : mayBatch b = true := by
      cases hb : mayBatch b with
      | true => rfl
      | false => exact absurd (.inr hb) hn
    refine ⟨h1, h2, ?_⟩
    by_cases hc : ckErr p.prods b = 0
    · refine ⟨hc, ?_⟩
      cases hi : ckIs p.prods b with
      | true => exact .inl ⟨rfl, by simp [Produce, h1, h2, prodR, hc, hi]⟩
      | false =>
        cases hr : refC p b with
        | none =>
          refine .inr ⟨rfl, rfl, ?_⟩
          cases ht : b.txn <;> simp [Produce, h1, h2, prodR, hc, hi, hr, ht, oneP, baseP, wrsP]
        | some x =>
          exfalso
          simp [prodR, hc, hi, hr] at h
          exact refC_ne hr h
    · exfalso
      simp [prodR, hc] at h
theorem prod_of {e q : Int} {p : Part} {b : Batch} (h1 : badOf e q p = false) (h2 : mayBatch b = true) (hc : ckErr p.prods b = 0) : Produce e q p b = if ckIs p.prods b = true then ⟨p, ckBase p.prods b, [], 0⟩ else match refC p b with
    | some x => ⟨partZ, 0, [], x.2⟩
    | none => ⟨oneP p b, baseP p b, wrsP e q b, 0⟩ := by
  cases hi : ckIs p.prods b with
  | true => simp [Produce, h1, h2, prodR, hc, hi]
  | false =>
    cases hr : refC p b with
    | none => cases ht : b.txn <;> simp [Produce, h1, h2, prodR, hc, hi, hr, ht, oneP, baseP, wrsP]
    | some x => simp [Produce, h1, h2, prodR, hc, hi, hr]
end Go.Proofs.YtpdmaenhenfofaaGreatDoor
