/- The general texts of the abstract machine, joined: Az, Ba, Bb. -/
import Derived.Test.YtbcoodmafoalmaaGreatDoorZM9
set_option linter.unusedVariables false
set_option linter.unusedSimpArgs false
/- Az -/
namespace Go.Am
section
variable {P : Program} {te : TE} {w : World} {g : G}
end
structure DrawOkR (ops : Array Oper) (fl : List Nat) (m : Nat) : Prop where
  edge : ∀ (i : Nat) o, ops[i]? = some o → ∀ e ∈ o.after, Region.binds .any e = true → e.on < i
  head : ∀ i oi, i < m → i ∉ fl → ops[i]? = some oi → ∀ j oj, j < i → j ∉ fl → ops[j]? = some oj → Pre ops j i ∨ oj.apart ops oi = true
  tail : ∀ i, m ≤ i → i < ops.size → i ∉ fl → ∀ j, j ∉ fl → j < i → Pre ops j i
  le : m ≤ ops.size
section
variable {P : Program} {c : Conf} {n m : Nat} {ops : Array Oper} {news : List Nat}
end
end Go.Am
/- Ba -/
namespace Go.Am
end Go.Am
/- Bb -/
namespace Go.Am
section
variable {P : Program} {c : Conf} {n : Nat} {ops : Array Oper} {rest : List Oper} {env : Env} {σ : St} {o : Oper} {k : Env → St → Prop} {news : List Nat}
end
end Go.Am
