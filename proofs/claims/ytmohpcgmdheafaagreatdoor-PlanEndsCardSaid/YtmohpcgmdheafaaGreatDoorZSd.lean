/- A drawn region's step, told by its number ahead of all else. No condition. -/
import Derived.Test.YtmohpcgmdheafaaGreatDoorZSt
set_option linter.unusedVariables false
set_option linter.unusedSimpArgs false
set_option maxRecDepth 100000
set_option maxHeartbeats 8000000
namespace Go.Proofs.YtmohpcgmdheafaaGreatDoor
open Go.Am
attribute [local irreducible] Decidable.decide
structure RgI (id:Nat) (p:Prop):Prop where
 t:True
theorem rgI {P:Program} {n id:Nat} {ops:Array Oper} {d:Bool} {e:Env} {s:St} {k:Exit->Env->St->Prop}:RgI id (Tr P n (.region id ops d) e s k):=⟨trivial⟩
theorem stE (id m:Nat) {q p:Prop} (k:q) (t:RgI id p:=by with_reducible exact rgI) (h:DP m id q p:=by exact Alj Ag Ab Y Y Y Y):p:=h k
end Go.Proofs.YtmohpcgmdheafaaGreatDoor
