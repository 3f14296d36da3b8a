/- The closed run of wakes: what is told to it is so. -/
import Derived.Test.YtbcoodmafoalmaaGreatDoorZM9
import Derived.Test.YtbcoodmafoalmaaGreatDoorZM10
import Derived.Test.YtbcoodmafoalmaaGreatDoorZCj
import Derived.Test.YtbcoodmafoalmaaGreatDoorZYd
import Derived.Test.YtbcoodmafoalmaaGreatDoorZYh
import Derived.Test.YtbcoodmafoalmaaGreatDoorZE2
set_option linter.unusedVariables false
set_option linter.unusedSimpArgs false
namespace Go.Proofs.YtbcoodmafoalmaaGreatDoor
open Go.Am
attribute [local irreducible] Decidable.decide
set_option maxRecDepth 100000
set_option maxHeartbeats 1000000
theorem spW1_ok {f : Nat} {xs : List AV} {r : AV} (h : spW1 f xs = some r) : Ct Tryz.prog f xs [] r [] := by
  unfold spW1 at h
  split at h
  · split at h
    · rename_i hb
      have e1 := Nat.eq_of_beq_eq_true hb
      subst e1
      simp only [Option.some.injEq] at h
      subst h
      exact cloneI0_ok
    · cases h
  · split at h
    · rename_i ch _ hb
      simp only [Bool.and_eq_true] at hb
      have e1 := Nat.eq_of_beq_eq_true hb.1
      have e2 : ch = 116 := UInt8.toNat_inj.1 (Nat.eq_of_beq_eq_true hb.2)
      subst e1; subst e2
      simp only [Option.some.injEq] at h
      subst h
      exact parseT_ok
    · cases h
  · split at h
    · rename_i hb
      simp only [Bool.and_eq_true] at hb
      have e1 := Nat.eq_of_beq_eq_true hb.1
      have e2 := Nat.eq_of_beq_eq_true hb.2
      subst e1; subst e2
      simp only [Option.some.injEq] at h
      subst h
      exact isNil_ct _
    · cases h
  · split at h
    · rename_i hb
      simp only [Bool.and_eq_true] at hb
      have e1 := Nat.eq_of_beq_eq_true hb.1
      have e2 := Nat.eq_of_beq_eq_true hb.2
      subst e1; subst e2
      simp only [Option.some.injEq] at h
      subst h
      exact fcodeB_ok _ _
    · cases h
  · cases h
theorem spW_ok {f : Nat} {xs : List AV} {σ σ' : St} {r : AV} (h : spW f xs σ = some (r, σ')) : Ct Tryz.prog f xs σ r σ' := by
  unfold spW at h
  split at h
  · rename_i q hq
    simp only [Option.some.injEq] at h
    subst h
    exact spG_ok hq
  · split at h
    · split at h
      · rename_i r2 hr
        simp only [Option.some.injEq, Prod.mk.injEq] at h
        obtain ⟨rfl, rfl⟩ := h
        exact spW1_ok hr
      · cases h
    · cases h
theorem progOkW1 : ProgOk Tryz.prog cfgW1 where
  te := progOk.te
  inv := progOk.inv
  num := progOk.num
  mix := progOk.mix
  sp := fun f xs σ r σ' h => spW_ok h
theorem wakes_ok : Ct Tryz.prog 7 [] [] (.t (.bool true)) [] := ctYB progOkW1 egN_ok 60 wakes_run
end Go.Proofs.YtbcoodmafoalmaaGreatDoor
