/- Contracts and laws, joined: Sp, Ra. No condition beside those that each theorem names. -/
import Derived.Test.YtpdmaenhenfofaaGreatDoorZCf
import Derived.Test.YtpdmaenhenfofaaGreatDoorZDt
set_option linter.unusedVariables false
set_option linter.unusedSimpArgs false
namespace Go.Proofs.YtpdmaenhenfofaaGreatDoor
open Go.Am
attribute [local irreducible] Decidable.decide
set_option maxRecDepth 100000
set_option maxHeartbeats 1000000
/- the bytes of a number -/
def vint (n : Nat) : Bs := if h : n < 128 then [UInt8.ofNat n] else UInt8.ofNat (128 + n % 128) :: vint (n / 128)
termination_by n
decreasing_by omega
theorem vint_lo {n : Nat} (h : n < 128) : vint n = [UInt8.ofNat n] := by rw [vint, dif_pos h]
theorem vint_hi {n : Nat} (h : ¬ n < 128) : vint n = UInt8.ofNat (128 + n % 128) :: vint (n / 128) := by rw [vint, dif_neg h]
theorem vint_len : ∀ (k n : Nat), n < 128 ^ (k + 1) → (vint n).length ≤ k + 1
  | 0, n, h => by rw [vint_lo (by simpa using h)]; simp
  | k + 1, n, h => by
    by_cases h1 : n < 128
    · rw [vint_lo h1]; simp
    · rw [vint_hi h1, List.length_cons]
      have := vint_len k (n / 128) (by rw [Nat.div_lt_iff_lt_mul (by decide)]; rw [Nat.pow_succ] at h; exact h)
      omega
theorem vint_len6 {n : Nat} (h : n ≤ 1099511627776) : (vint n).length ≤ 6 := vint_len 5 n (Nat.lt_of_le_of_lt h (by decide))
theorem u8_enc {n : Int} {m : Nat} (h : n = m) (hm : m < 256) : T.int .u8 (IntKind.u8.wrap n) = T.int .u8 ((UInt8.ofNat m).toNat : Int) := by
  subst h
  have h1 : (UInt8.ofNat m).toNat = m := by simp [UInt8.toNat_ofNat']; omega
  rw [h1]; congr 1
  simp [IntKind.wrap, IntKind.bits, IntKind.signed]; omega
end Go.Proofs.YtpdmaenhenfofaaGreatDoor

namespace Go.Proofs.YtpdmaenhenfofaaGreatDoor
open Go.Am
attribute [local irreducible] Decidable.decide
set_option maxRecDepth 100000
set_option maxHeartbeats 1000000
def greatR (r : Rec) : Bool := decide (200 < (r.key.length : Int)) || decide (200 < (r.value.length : Int))
end Go.Proofs.YtpdmaenhenfofaaGreatDoor
