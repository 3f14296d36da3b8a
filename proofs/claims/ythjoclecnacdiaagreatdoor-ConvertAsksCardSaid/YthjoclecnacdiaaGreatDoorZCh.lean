/- Closed runs of this seat: contracts as special functions; ranges over side files that there are none of. -/
import Derived.Test.YthjoclecnacdiaaGreatDoorZJ6
import Derived.Test.YthjoclecnacdiaaGreatDoorZM5
import Derived.Test.YthjoclecnacdiaaGreatDoorZM12
set_option linter.unusedVariables false
set_option linter.unusedSimpArgs false
namespace Go.Proofs.YthjoclecnacdiaaGreatDoor
open Go.Am
attribute [local irreducible] Decidable.decide
set_option maxRecDepth 100000
set_option maxHeartbeats 1000000
theorem S4 (es:List (List T)):Ct Tryz.prog 140 [.t (.slice .any 2 es)] [] (.t (.func (.func 177) [] [.ptr [.slice .any 2 es]])) []:=by
 refine ct0 Ab Tryz.func140 J false J J ?_
 refine A9 ?_
 refine Aw Ab J J ?_
 repeat'(first|refine Ak Ab J J J J J ?_|refine Ap Ab J J J ?_|refine A0 ?_|(refine A1 J J J J J (ht:=fun h=>?_) (hf:=fun h=>?_)<;>try exact prn)|(refine A2 J J J J J (ht:=fun h=>?_) (hf:=fun h=>?_)<;>try exact prn)|refine Ag J J J J J ?_|refine Aj Ab J J J J J J J (Ac Z) J ?_|refine Ae Ab J J J J J J J Z (Ac Z) J ?_|refine Ah Ab J J J J J J J J J J J J J (by simp[Ad];omega) ?_|refine Af Ab J J J J J J J J J J J J J J (by simp[Ad];omega) ?_|refine As J J J J ?_|refine A4 ?_|(refine A5 J J J J J (ht:=fun h=>?_) (hf:=fun h=>?_)<;>try exact prn)|(refine A6 J J J J J (ht:=fun h=>?_) (hf:=fun h=>?_)<;>try exact prn)|refine Ai J J J J J ?_|refine An J J J J J J J (Ac Z) J ?_)
 refine Tr.freezeBox (cs:=[.slice .any 2 es]) 1 2 J J J J ?_
 repeat'(first|refine Ak Ab J J J J J ?_|refine Ap Ab J J J ?_|refine A0 ?_|refine A9 ?_|refine Aw Ab J J ?_|(refine A1 J J J J J (ht:=fun h=>?_) (hf:=fun h=>?_)<;>try exact prn)|(refine A2 J J J J J (ht:=fun h=>?_) (hf:=fun h=>?_)<;>try exact prn)|refine Ag J J J J J ?_|(refine Al J (ht:=fun h=>?_) (hf:=fun h=>?_)<;>try exact prn)|refine Au ?_|refine Aq ?_|refine Ar ?_|refine A3 ?_|refine Aj Ab J J J J J J J (Ac Z) J ?_|refine Ae Ab J J J J J J J Z (Ac Z) J ?_|refine Ah Ab J J J J J J J J J J J J J (by simp[Ad];omega) ?_|refine Af Ab J J J J J J J J J J J J J J (by simp[Ad];omega) ?_|refine As J J J J ?_|refine A4 ?_|(refine A5 J J J J J (ht:=fun h=>?_) (hf:=fun h=>?_)<;>try exact prn)|(refine A6 J J J J J (ht:=fun h=>?_) (hf:=fun h=>?_)<;>try exact prn)|refine Ai J J J J J ?_|refine An J J J J J J J (Ac Z) J ?_)
 exact AC J (Sub.of_eq J)
theorem NM:Ml Tryz.prog 177 [.ptr [.slice .any 2 []]]:=by
 intro n env σ gop ps asg bd K hg hK
 refine R1 Ab hg Tryz.func177 J J (fun l=>?_)
 generalize upS σ=S at hK⊢
 generalize hB:Blk.loop l .ready none _ _ _ _ _=B
 repeat'(first|refine Ak Ab J J J J J ?_|refine Ap Ab J J J ?_|refine A0 ?_|refine A9 ?_|refine Aw Ab J J ?_|(refine A1 J J J J J (ht:=fun h=>?_) (hf:=fun h=>?_)<;>try exact prn)|(refine A2 J J J J J (ht:=fun h=>?_) (hf:=fun h=>?_)<;>try exact prn)|refine Ag J J J J J ?_|(refine Al J (ht:=fun h=>?_) (hf:=fun h=>?_)<;>try exact prn)|refine Au ?_|refine Aq ?_|refine Ar ?_|refine A3 ?_|refine Aj Ab J J J J J J J (Ac Z) J ?_|refine Ae Ab J J J J J J J Z (Ac Z) J ?_|refine Ah Ab J J J J J J J J J J J J J (by simp[Ad];omega) ?_|refine Af Ab J J J J J J J J J J J J J J (by simp[Ad];omega) ?_|refine AD (id:=3) (m:=15) Ab U J J J J ?_|refine As J J J J ?_|refine A4 ?_|(refine A5 J J J J J (ht:=fun h=>?_) (hf:=fun h=>?_)<;>try exact prn)|(refine A6 J J J J J (ht:=fun h=>?_) (hf:=fun h=>?_)<;>try exact prn)|refine Ai J J J J J ?_|refine An J J J J J J J (Ac Z) J ?_)
 refine EW 1 (Gh (m:=0) ?_)
 repeat'(first|refine Ak Ab J J J J J ?_|refine Ap Ab J J J ?_|refine A0 ?_|refine A9 ?_|refine Aw Ab J J ?_|(refine A1 J J J J J (ht:=fun h=>?_) (hf:=fun h=>?_)<;>try exact prn)|(refine A2 J J J J J (ht:=fun h=>?_) (hf:=fun h=>?_)<;>try exact prn)|refine Ag J J J J J ?_|(refine Al J (ht:=fun h=>?_) (hf:=fun h=>?_)<;>try exact prn)|refine Au ?_|refine Aq ?_|refine Ar ?_|refine A3 ?_|refine Aj Ab J J J J J J J (Ac Z) J ?_|refine Ae Ab J J J J J J J Z (Ac Z) J ?_|refine Ah Ab J J J J J J J J J J J J J (by simp[Ad];omega) ?_|refine Af Ab J J J J J J J J J J J J J J (by simp[Ad];omega) ?_|refine AD (id:=3) (m:=15) Ab U J J J J ?_|refine As J J J J ?_|refine A4 ?_|(refine A5 J J J J J (ht:=fun h=>?_) (hf:=fun h=>?_)<;>try exact prn)|(refine A6 J J J J J (ht:=fun h=>?_) (hf:=fun h=>?_)<;>try exact prn)|refine Ai J J J J J ?_|refine An J J J J J J J (Ac Z) J ?_)
 subst hB
 ·exfalso;simp_all
 ·subst hB
  exact⟨.inl J,J,_,_,_,_,J,Y,J,hK⟩
def egR (gf:Nat) (caps:List T):Bool:=bif Nat.beq gf 177 then(match caps with
 |[.ptr [.slice .any sz []]]=>Nat.beq sz 2
 |_=>false)else false
theorem Yy: ∀gf caps,egR gf caps=true→Ml Tryz.prog gf caps:=by
 intro gf caps h
 unfold egR at h
 cases hf:Nat.beq gf 177 with
 |false=>rw[hf]at h;cases h
 |true=>
  rw[hf]at h
  have:=Nat.eq_of_beq_eq_true hf
  subst this
  simp only[cond_true]at h
  split at h
  ·rename_i sz
   have:=Nat.eq_of_beq_eq_true h
   subst this
   exact @NM
  ·cases h
def Ac2:List AV→Option Unit
 |[.t (.slice _ _ [])]=>some ()
 |_=>none
def VG:=Us 140 Ac2 (fun _=>[.t (.slice .any 2 [])]) (fun _=>true) (fun _=>.t (.func (.func 177) [] [.ptr [.slice .any 2 []]]))
def XQ:Nat→List AV→St→Option (AV×St):=NP Yv (NP VH VG)
theorem Vd {f:Nat} {xs:List AV} {σ σ':St} {r:AV} (h:XQ f xs σ=some (r,σ')):Ct Tryz.prog f xs σ r σ':=by
 unfold XQ NP at h
 split at h
 ·rename_i q hq;cases h;exact NU (fun p hp=>Uj p (by simpa using hp)) hq
 ·split at h
  ·rename_i q hq;cases h;exact NU (fun o ho=>Tb o ho) hq
  ·exact NU (fun _ _=>S4 []) h
def XD:Conf:={cfg with sp:=XQ,ownR:=[69],own:=[51,72]}
theorem TU:ProgOk Tryz.prog XD where
 te:=Ab.te
 inv:=Ab.inv
 num:=Ab.num
 mix:=Ab.mix
 sp:=fun f xs σ r σ' h=>Vd h
end Go.Proofs.YthjoclecnacdiaaGreatDoor
