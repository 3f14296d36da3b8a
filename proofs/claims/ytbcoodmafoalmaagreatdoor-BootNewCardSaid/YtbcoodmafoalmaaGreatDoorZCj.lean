/- The closed run of wakes: what is told to it, and the run. -/
import Derived.Test.YtbcoodmafoalmaaGreatDoorZM9
import Derived.Test.YtbcoodmafoalmaaGreatDoorZM10
import Derived.Test.YtbcoodmafoalmaaGreatDoorZYb
set_option linter.unusedVariables false
set_option linter.unusedSimpArgs false
namespace Go.Proofs.YtbcoodmafoalmaaGreatDoor
open Go.Am
attribute [local irreducible] Decidable.decide
set_option maxRecDepth 100000
set_option maxHeartbeats 1000000
def spW1 (f : Nat) (xs : List AV) : Option AV :=
  match xs with
  | [.t (.slice .any 1 [])] => (match Nat.beq f 138 with
    | true => some (.t (.slice .any 1 []))
    | false => none)
  | [.t (.str [ch])] => (match Nat.beq f 59 && Nat.beq ch.toNat 116 with
    | true => some (.tuple [.t (.int .i8 0), .t (.int .i8 0), .t (.int .i64 0), .t (.int .i64 0), .t (.bool false)])
    | false => none)
  | [.t .nilIface, .t (.iface t (.int .i64 k))] => (match Nat.beq f 20 && Nat.beq t 30 with
    | true => some (.t (.bool false))
    | false => none)
  | [.t (.iface t (.ptr [s, .int .i64 k]))] => (match Nat.beq f 6 && Nat.beq t 123 with
    | true => some (.t (.int .i64 k))
    | false => none)
  | _ => none
def spW (f : Nat) (xs : List AV) (σ : St) : Option (AV × St) :=
  match spG f xs σ with
  | some q => some q
  | none => (match σ with
    | [] => (match spW1 f xs with
      | some r => some (r, [])
      | none => none)
    | _ => none)
def cfgW1 : Conf := { cfg with sp := spW, ownR := [29, 1000000 + 160, 1000000 + 68, 1000000 + 123, 50] }
theorem wakes_run : (callY Tryz.prog cfgW1 egN 60 7 [] []).map (·.1) = some (.t (.bool true)) := by kernel_rfl
end Go.Proofs.YtbcoodmafoalmaaGreatDoor
