/- Contracts and laws, joined: Rg, Rh, Ri, Rj, Rk, Rl. No condition beside those that each theorem names. -/
import Derived.Test.YthjoclecnacdiaaGreatDoorZJ1
set_option linter.unusedVariables false
set_option linter.unusedSimpArgs false
namespace Go.Proofs.YthjoclecnacdiaaGreatDoor
open Go.Am
attribute [local irreducible] Decidable.decide
set_option maxRecDepth 100000
set_option maxHeartbeats 1000000
def TN (r:Rec):Bs:=G6 r.key++G6 r.value
def GD (y:Bool):Bs:=[if y then 1 else 0]
def FG (b:Batch):Bs:=BR b.pid.toNat++BR b.epoch.toNat++BR b.seq.toNat++GD b.txn++BR b.recs.length++b.recs.flatMap TN
theorem JL {s:Bs} (h:s.length≤16):(G6 s).length≤22:=by
 have:=BA (n:=s.length) O
 simp[G6];omega
theorem Lv: ∀{l:List Rec},l.all GS=true→(l.flatMap TN).length≤44*l.length
 |[],_=>by simp
 |r::l,h=>by
  simp only[List.all_cons,Bool.and_eq_true]at h
  have ih:=Lv h.2
  have h1:=H8.1 h.1
  have h2:=JL (s:=r.key) O
  have h3:=JL (s:=r.value) O
  simp only[List.flatMap_cons,List.length_append,List.length_cons,TN];omega
theorem SG {sz:Nat}:Sub (.t (.slice .nil sz [])) (.t (.slice .any 1 (([]:Bs).map Bo))):=AY
end Go.Proofs.YthjoclecnacdiaaGreatDoor
namespace Go.Proofs.YthjoclecnacdiaaGreatDoor
open Go.Am
attribute [local irreducible] Decidable.decide
set_option maxRecDepth 100000
set_option maxHeartbeats 1000000
theorem Mi {b:Batch} (h:B3 b=true):(FG b).length≤1000:=by
 simp only[B3,Bool.and_eq_true,decide_eq_true_eq]at h
 obtain⟨hbd,hall⟩:=h
 unfold CX at hbd
 have l1:=BA (n:=b.pid.toNat) O
 have l2:=BA (n:=b.epoch.toNat) O
 have l3:=BA (n:=b.seq.toNat) O
 have l4:=BA (n:=b.recs.length) O
 have l5:=Lv hall
 unfold FG
 simp only[List.length_append,GD,List.length_cons,List.length_nil];omega
end Go.Proofs.YthjoclecnacdiaaGreatDoor
namespace Go.Proofs.YthjoclecnacdiaaGreatDoor
open Go.Am
attribute [local irreducible] Decidable.decide
set_option maxRecDepth 100000
set_option maxHeartbeats 1000000
theorem hch {n:Nat} {a b:Int} (h1:T.int .u8 a=T.int .u8 ((UInt8.ofNat (n % 256)).toNat:Int)) (h2:T.int .u8 b=T.int .u8 ((UInt8.ofNat (n/256)).toNat:Int)):Ad 1 4 [T.int .u8 a,T.int .u8 b,T.int .u8 0,T.int .u8 0]=D2 [UInt8.ofNat (n % 256),UInt8.ofNat (n/256),0,0]:=by
 rw[h1,h2];rfl
end Go.Proofs.YthjoclecnacdiaaGreatDoor
