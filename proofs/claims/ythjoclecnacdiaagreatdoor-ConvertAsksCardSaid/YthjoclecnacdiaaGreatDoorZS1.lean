/- Contracts and laws, joined: Sp, Ra. No condition beside those that each theorem names. -/
import Derived.Test.YthjoclecnacdiaaGreatDoorZT1
import Derived.Test.YthjoclecnacdiaaGreatDoorZD1
set_option linter.unusedVariables false
set_option linter.unusedSimpArgs false
namespace Go.Proofs.YthjoclecnacdiaaGreatDoor
open Go.Am
attribute [local irreducible] Decidable.decide
set_option maxRecDepth 100000
set_option maxHeartbeats 1000000
def BR (n:Nat):Bs:=if h:n<128 then[UInt8.ofNat n]else UInt8.ofNat (128+n % 128)::BR (n/128)
termination_by n
decreasing_by omega
theorem ID {n:Nat} (h:n<128):BR n=[UInt8.ofNat n]:=by rw[BR,dif_pos h]
theorem KE {n:Nat} (h: ¬n<128):BR n=UInt8.ofNat (128+n % 128)::BR (n/128):=by rw[BR,dif_neg h]
theorem Oo: ∀(k n:Nat),n<128^(k+1)→(BR n).length≤k+1
 |0,n,h=>by rw[ID (by simpa using h)];simp
 |k+1,n,h=>by
  by_cases h1:n<128
  ·rw[ID h1];simp
  ·rw[KE h1,List.length_cons]
   have:=Oo k (n/128) (by rw[Nat.div_lt_iff_lt_mul Aa];rw[Nat.pow_succ]at h;exact h)
   omega
theorem BA {n:Nat} (h:n≤1099511627776):(BR n).length≤6:=Oo 5 n (Nat.lt_of_le_of_lt h Aa)
theorem Tw {n:Int} {m:Nat} (h:n=m) (hm:m<256):T.int .u8 (IntKind.u8.wrap n)=T.int .u8 ((UInt8.ofNat m).toNat:Int):=by
 subst h
 have h1:(UInt8.ofNat m).toNat=m:=by simp[UInt8.toNat_ofNat'];omega
 rw[h1];congr 1
 simp[IntKind.wrap,IntKind.bits,IntKind.signed];omega
end Go.Proofs.YthjoclecnacdiaaGreatDoor
