/- Contracts and laws, joined: Pl, Pm, Pn, Po, Pp, Pq. No condition beside those that each theorem names. -/
import Derived.Test.YthjoclecnacdiaaGreatDoorZJ4b
import Derived.Test.YthjoclecnacdiaaGreatDoorZKn
import Derived.Test.YthjoclecnacdiaaGreatDoorZM5
import Derived.Test.YthjoclecnacdiaaGreatDoorZE2
set_option linter.unusedVariables false
set_option linter.unusedSimpArgs false
namespace Go.Proofs.YthjoclecnacdiaaGreatDoor
open Go.Am
attribute [local irreducible] Decidable.decide
set_option maxRecDepth 100000
set_option maxHeartbeats 1000000
def QV (n:Int):List T:=[.int .i64 n]
end Go.Proofs.YthjoclecnacdiaaGreatDoor
