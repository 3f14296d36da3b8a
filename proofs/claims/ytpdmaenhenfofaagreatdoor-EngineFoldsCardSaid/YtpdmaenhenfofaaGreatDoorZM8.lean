/- Contracts and laws, joined: Sp, Ra. No condition beside those that each theorem names. -/
import Derived.Test.YtpdmaenhenfofaaGreatDoorZCf
import Derived.Test.YtpdmaenhenfofaaGreatDoorZDt
set_option linter.unusedVariables false
set_option linter.unusedSimpArgs false
namespace Go.Proofs.YtpdmaenhenfofaaGreatDoor
open Go.Am
attribute [local irreducible] Decidable.decide
set_option maxRecDepth 100000
set_option maxHeartbeats 1000000
def B6 (n:Nat):Bs:=if h:n<128 then[UInt8.ofNat n]else UInt8.ofNat (128+n % 128)::B6 (n/128)
termination_by n
decreasing_by omega
theorem CA {n:Nat} (h:n<128):B6 n=[UInt8.ofNat n]:=by rw[B6,dif_pos h]
theorem Gb {n:Nat} (h: ¬n<128):B6 n=UInt8.ofNat (128+n % 128)::B6 (n/128):=by rw[B6,dif_neg h]
theorem SP: ∀(k n:Nat),n<128^(k+1)→(B6 n).length≤k+1
 |0,n,h=>by rw[CA (by simpa using h)];simp
 |k+1,n,h=>by
  by_cases h1:n<128
  ·rw[CA h1];simp
  ·rw[Gb h1,List.length_cons]
   have:=SP k (n/128) (by rw[Nat.div_lt_iff_lt_mul Ab];rw[Nat.pow_succ]at h;exact h)
   omega
theorem Cf {n:Nat} (h:n≤1099511627776):(B6 n).length≤6:=SP 5 n (Nat.lt_of_le_of_lt h Ab)
theorem Zz {n:Int} {m:Nat} (h:n=m) (hm:m<256):T.int .u8 (IntKind.u8.wrap n)=T.int .u8 ((UInt8.ofNat m).toNat:Int):=by
 subst h
 have h1:(UInt8.ofNat m).toNat=m:=by simp[UInt8.toNat_ofNat'];omega
 rw[h1];congr 1
 simp[IntKind.wrap,IntKind.bits,IntKind.signed];omega
end Go.Proofs.YtpdmaenhenfofaaGreatDoor
namespace Go.Proofs.YtpdmaenhenfofaaGreatDoor
open Go.Am
attribute [local irreducible] Decidable.decide
set_option maxRecDepth 100000
set_option maxHeartbeats 1000000
def OC (r:Rec):Bool:=decide (200<(r.key.length:Int))||decide (200<(r.value.length:Int))
end Go.Proofs.YtpdmaenhenfofaaGreatDoor
