/- The closed run of wakes. -/
import Derived.Test.YthjoclecnacdiaaGreatDoorZCh
set_option linter.unusedVariables false
set_option linter.unusedSimpArgs false
namespace Go.Proofs.YthjoclecnacdiaaGreatDoor
open Go.Am
attribute [local irreducible] Decidable.decide
set_option maxRecDepth 100000
set_option maxHeartbeats 1000000
theorem Sg:(Mg Tryz.prog XD egR 60 7 [] []).map (·.1)=some (.t (.bool true)):=U
theorem Om:Ct Tryz.prog 7 [] [] (.t (.bool true)) []:=Ac5 TU Yy 60 Sg
end Go.Proofs.YthjoclecnacdiaaGreatDoor
