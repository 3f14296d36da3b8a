/- More shapes of arguments: the acts of a law's script. -/
import Derived.Test.YtpdmaenhenfofaaGreatDoorZFb
import Derived.Test.YtpdmaenhenfofaaGreatDoorZJ16
set_option linter.unusedVariables false
set_option linter.unusedSimpArgs false
namespace Go.Proofs.YtpdmaenhenfofaaGreatDoor
open Go.Am Go.ChangeShapes Go.WideShapes Go.RowKit
set_option maxRecDepth 100000
def Z8:Sh:=.struct [.int .i64,RZ,.int .i64,.bool,.int .i64]
theorem Alz {xs:List T} (h:Z8.Q xs): ∃a,xs=E9 a:=by
 simp only[Z8,Sh.Q,QL]at h
 obtain⟨_,_,⟨a,rfl⟩,⟨_,_,hb,⟨_,_,⟨c,rfl⟩,⟨_,_,⟨d,rfl⟩,⟨_,_,⟨e,rfl⟩,rfl,rfl⟩,rfl⟩,rfl⟩,rfl⟩,rfl⟩:=h
 obtain⟨b,rfl⟩:=Adh hb
 exact⟨⟨a,b,c,d,e⟩,J⟩
end Go.Proofs.YtpdmaenhenfofaaGreatDoor
