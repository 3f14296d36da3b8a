/- Contracts and laws, joined: Cg, Wk. No condition beside those that each theorem names. -/
import Derived.Test.YtpdmaenhenfofaaGreatDoorZJ6
import Derived.Test.YtpdmaenhenfofaaGreatDoorZDm
import Derived.Test.YtpdmaenhenfofaaGreatDoorZJ5
import Derived.Test.YtpdmaenhenfofaaGreatDoorZM6
set_option linter.unusedVariables false
set_option linter.unusedSimpArgs false
namespace Go.Proofs.YtpdmaenhenfofaaGreatDoor
open Go.Am
attribute [local irreducible] Decidable.decide
set_option maxRecDepth 100000
set_option maxHeartbeats 1000000
def dI:T→Option Int
 |.int _ n=>some n
 |_=>none
def dB:T→Option Bool
 |.bool b=>some b
 |_=>none
def dS:T→Option Bs
 |.str s=>some s
 |_=>none
def Ami {α:Type} (f:List T→Option α):List (List T)→Option (List α)
 |[]=>some []
 |x::r=>(f x).bind fun a=>(Ami f r).bind fun l=>some (a::l)
def dL {α:Type} (f:List T→Option α):T→Option (List α)
 |.slice _ _ es=>Ami f es
 |_=>none
def Aol:List T→Option Rec
 |[a,b]=>(dS a).bind fun a=>(dS b).bind fun b=>some ⟨a,b⟩
 |_=>none
def Ab2:List T→Option Batch
 |[a,b,c,d,e]=>(dI a).bind fun a=>(dI b).bind fun b=>(dI c).bind fun c=>(dB d).bind fun d=>(dL Aol e).bind fun e=>some ⟨a,b,c,d,e⟩
 |_=>none
def Amh:List T→Option Seen
 |[a,b,c]=>(dI a).bind fun a=>(dI b).bind fun b=>(dI c).bind fun c=>some ⟨a,b,c⟩
 |_=>none
def Ahh:List T→Option Prod
 |[a,b,c,e]=>(dI a).bind fun a=>(dI b).bind fun b=>(dI c).bind fun c=>(dL Amh e).bind fun e=>some ⟨a,b,c,e⟩
 |_=>none
def Aok:List T→Option Row
 |[a,b,c,d,e]=>(dI a).bind fun a=>(dI b).bind fun b=>(dI c).bind fun c=>(dS d).bind fun d=>(dS e).bind fun e=>some ⟨a,b,c,d,e⟩
 |_=>none
def Aom:List T→Option Opn
 |[a,b,e]=>(dI a).bind fun a=>(dI b).bind fun b=>(dL Ab2 e).bind fun e=>some ⟨a,b,e⟩
 |_=>none
def Aip:List T→Option Entry
 |[k,b1,b2,b3,b4,b5,y,n,o,r1,r2,r3,r4,r5,p1,p2,p3,p4]=>(dI k).bind fun k=>(Ab2 [b1,b2,b3,b4,b5]).bind fun b=>(dB y).bind fun y=>(dI n).bind fun n=>(dI o).bind fun o=>(Aok [r1,r2,r3,r4,r5]).bind fun r=>(Ahh [p1,p2,p3,p4]).bind fun p=>some ⟨k,b,y,n,o,r,p⟩
 |_=>none
def Amg {α:Type} (f:List T→Option α):List AV→Option α
 |[.agg cs]=>(allT cs).bind f
 |_=>none
def Aio:List AV→Option (Bs×List Entry)
 |[.t a,.t b]=>(dS a).bind fun a=>(dL Aip b).bind fun b=>some (a,b)
 |_=>none
def VC (x:Entry):Bool:=Nat.ble x.b.recs.length 1000000&&Nat.ble x.prod.seen.length 1000000
def Aig:=Ad0 155 (Amg Ahh) (fun p=>[.agg (Aj (Av p))]) (fun p=>Nat.ble p.seen.length 1000000) (fun p=>.t (.bool (C2 p)))
def Ad3:=Ad0 96 (Amg Aom) (fun o=>[.agg (Aj (Aw o))]) BZ (fun o=>.tuple [.t (.slice .any 18 ((BC o).map A4)),.t (.int .i64 0)])
def Aif (f:Nat) (xs:List AV) (σ:St):Option (AV×St):=
 bif Nat.beq f 11 then(match σ with
  |[]=>(match Aio xs with
   |some (name,l)=>(match l with
    |[]=>none
    |x::r=>bif (Nat.ble (x::r).length 1000000&&((x::r).all VC&&(x::r).all B9))&&KT xs [.t (.str name),.t (.slice .any 18 ((x::r).map A4))]then
     some (.tuple [.row 86 4 0 ((CX name (x::r)).map BV).length,.t (.int .i64 0)],[(86,.grow 4 ((CX name (x::r)).map BV))])else none)
   |none=>none)
  |_=>none)else none
theorem Ad1 {f:Nat} {xs:List AV} {σ σ':St} {r:AV} (h:Aif f xs σ=some (r,σ')):Ct Tryz.prog f xs σ r σ':=by
 unfold Aif at h
 cases hf:Nat.beq f 11 with
 |false=>rw[hf]at h;simp at h
 |true=>
  rw[hf]at h
  have:=Nat.eq_of_beq_eq_true hf
  subst this
  simp only[cond_true]at h
  split at h
  ·split at h
   ·rename_i name l hd
    split at h
    ·cases h
    ·rename_i x t
     cases hq:(Nat.ble (x::t).length 1000000&&((x::t).all VC&&(x::t).all B9))&&KT xs [.t (.str name),.t (.slice .any 18 ((x::t).map A4))]with
     |false=>rw[hq]at h;simp at h
     |true=>
      rw[hq]at h
      simp only[Bool.and_eq_true]at hq
      obtain⟨⟨h1,h2,h3⟩,h4⟩:=hq
      simp only[cond_true,Option.some.injEq,Prod.mk.injEq]at h
      obtain⟨rfl,rfl⟩:=h
      exact(Abp name (x::t) (by simpa using h1) (fun y hy=>by have:=List.all_eq_true.1 h2 y hy;simp[VC]at this;exact this) Z h3).args (NP h4)
   ·cases h
  ·cases h
def Aih (f:Nat) (xs:List AV) (σ:St):Option (AV×St):=
 bif Nat.beq f 105 then(match xs with
  |[.row b sz lo n,.t (.int .i64 (.ofNat i)),.t (.int .i64 j)]=>(match Go.Am.look σ b with
   |some (.grow sz' es)=>bif Nat.beq sz 3&&(Nat.beq sz' 3&&(Nat.beq lo 0&&(Nat.beq n es.length&&(Nat.blt i es.length&&(UR j ((i:Int)+1)&&Nat.ble es.length 1000000)))))then some (.row b 3 0 (es.length-1),upd σ b (.grow 3 (es.eraseIdx i)))else none
   |_=>none)
  |_=>none)else none
theorem Ad2 {f:Nat} {xs:List AV} {σ σ':St} {r:AV} (h:Aih f xs σ=some (r,σ')):Ct Tryz.prog f xs σ r σ':=by
 unfold Aih at h
 cases hf:Nat.beq f 105 with
 |false=>rw[hf]at h;simp at h
 |true=>
  rw[hf]at h
  have:=Nat.eq_of_beq_eq_true hf
  subst this
  simp only[cond_true]at h
  split at h
  ·rename_i b sz lo n i j
   split at h
   ·rename_i sz' es hb
    cases hq:(Nat.beq sz 3&&(Nat.beq sz' 3&&(Nat.beq lo 0&&(Nat.beq n es.length&&(Nat.blt i es.length&&(UR j ((i:Int)+1)&&Nat.ble es.length 1000000))))))with
    |false=>rw[hq]at h;simp at h
    |true=>
     rw[hq]at h
     simp only[Bool.and_eq_true]at hq
     obtain⟨h1,h2,h3,h4,h5,h6,h7⟩:=hq
     have h1:=Nat.eq_of_beq_eq_true h1
     have h2:=Nat.eq_of_beq_eq_true h2
     have h3:=Nat.eq_of_beq_eq_true h3
     have h4:=Nat.eq_of_beq_eq_true h4
     have h6:=UQ h6
     subst h1;subst h2;subst h3;subst h4;subst h6
     simp at h
     obtain⟨rfl,rfl⟩:=h
     exact R9 σ b es i hb (by simpa[Nat.blt_eq]using h5) (by simpa using h7)
   ·cases h
  ·cases h
def spF:Nat→List AV→St→Option (AV×St):=JC Aig (JC Ad3 (JC Aif Aih))
theorem Z4 {f:Nat} {xs:List AV} {σ σ':St} {r:AV} (h:spF f xs σ=some (r,σ')):Ct Tryz.prog f xs σ r σ':=by
 unfold spF JC at h
 split at h
 ·rename_i q hq;cases h;exact Xs (fun p hp=>E1 p (by simpa using hp)) hq
 ·split at h
  ·rename_i q hq;cases h;exact Xs (fun o ho=>JU o ho) hq
  ·split at h
   ·rename_i q hq;cases h;exact Ad1 hq
   ·exact Ad2 h
def Air:Conf:={cfg with sp:=spF,ownR:=265::cfg.ownR}
theorem Adi:ProgOk Tryz.prog Air where
 te:=Ac.te
 inv:=Ac.inv
 num:=Ac.num
 mix:=Ac.mix
 sp:=fun f xs σ r σ' h=>Z4 h
noncomputable def spG:Nat→List AV→St→Option (AV×St):=JC spF (Abb Tryz.prog Air [54])
theorem Ahx {f:Nat} {xs:List AV} {σ σ':St} {r:AV} (h:spG f xs σ=some (r,σ')):Ct Tryz.prog f xs σ r σ':=by
 unfold spG JC at h
 split at h
 ·rename_i q hq;cases h;exact Z4 hq
 ·exact Aba Adi h
noncomputable def Aml:Conf:={Air with own:=[54,56,105],sp:=spG}
theorem Sf:ProgOk Tryz.prog Aml where
 te:=Ac.te
 inv:=Ac.inv
 num:=Ac.num
 mix:=Ac.mix
 sp:=fun f xs σ r σ' h=>Ahx h
end Go.Proofs.YtpdmaenhenfofaaGreatDoor
namespace Go.Proofs.YtpdmaenhenfofaaGreatDoor
open Go.Am
attribute [local irreducible] Decidable.decide
set_option maxRecDepth 100000
set_option maxHeartbeats 1000000
theorem X8:(J0 Tryz.prog Aml 60 10 [] []).map (·.1)=some (.t (.bool true)):=Y
theorem KL:Ct Tryz.prog 10 [] [] (.t (.bool true)) []:=ctB Sf 60 X8
end Go.Proofs.YtpdmaenhenfofaaGreatDoor
