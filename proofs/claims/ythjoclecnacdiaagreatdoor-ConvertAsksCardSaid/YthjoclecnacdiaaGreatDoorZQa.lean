/- Contracts of the program: parts that can be read. -/
import Derived.Test.YthjoclecnacdiaaGreatDoorZM9
import Derived.Test.YthjoclecnacdiaaGreatDoorZJ3
set_option linter.unusedVariables false
set_option linter.unusedSimpArgs false
namespace Go.Proofs.YthjoclecnacdiaaGreatDoor
open Go.Am
attribute [local irreducible] Decidable.decide
set_option maxRecDepth 100000
set_option maxHeartbeats 1000000
def Fj (t:Nat) (what:Bs) (n:Int):T:=.iface t (.ptr [.str what,.int .i64 n])
end Go.Proofs.YthjoclecnacdiaaGreatDoor
