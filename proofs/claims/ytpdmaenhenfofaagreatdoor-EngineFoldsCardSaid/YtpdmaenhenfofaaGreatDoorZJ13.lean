/- Contracts and laws, joined: Qz, Ta, Ld. No condition beside those that each theorem names. -/
import Derived.Test.YtpdmaenhenfofaaGreatDoorZM10
import Derived.Test.YtpdmaenhenfofaaGreatDoorZJ11
import Derived.Test.YtpdmaenhenfofaaGreatDoorZJ9
import Derived.Test.YtpdmaenhenfofaaGreatDoorZM11
import Derived.Test.YtpdmaenhenfofaaGreatDoorZJ12
set_option linter.unusedVariables false
set_option linter.unusedSimpArgs false
namespace Go.Proofs.YtpdmaenhenfofaaGreatDoor
open Go.Am
attribute [local irreducible] Decidable.decide
set_option maxRecDepth 100000
set_option maxHeartbeats 1000000
theorem XV (l:List Batch) (hl:l.length≤1000000) (hs: ∀b∈l,b.recs.length≤1000000):Ct Tryz.prog 41 [.t (.slice .any 5 (l.map Ap)),.t (.slice .any 5 (l.map Ap))] [] (.t (.bool true)) []:=by
 have hlm:(l.map Ap).length=l.length:=List.length_map ..
 refine ct0 Ac Tryz.func41 J false J J ?_
 repeat'(first|refine Ae Ac J J J ?_|refine Ag ?_|refine Ah ?_|refine Ai Ac J J ?_|(refine Af J (ht:=fun h=>?_) (hf:=fun h=>?_)<;>try exact prn)|refine Al ?_|refine Ao ?_)
 refine AM (ι:=Nat) (fun i=>i≤l.length) (fun i=>[(0,.t (.slice .any 5 (l.map Ap))),(1,.t (.slice .any 5 (l.map Ap))),(5,.t (.int .i64 i))]) (fun _=>[]) (fun i=>l.length-i) 0 Z ?_ ?_
 ·exact AR [] (Ad J J (Ad J J (Ad J J Aq))) J
 rintro i hi
 by_cases hlt:i<l.length
 ·have hr:l[i]?=some l[i]:=List.getElem?_eq_getElem hlt
  have hb:=hs l[i] (List.getElem_mem hlt)
  generalize l[i]=r at hr hb
  have cb:=Tt r r hb
  rw[decide_eq_true J]at cb
  repeat'(first|refine Ae Ac J J J ?_|refine Ag ?_|refine Ah ?_|refine Ai Ac J J ?_|(refine Af J (ht:=fun h=>?_) (hf:=fun h=>?_)<;>try exact prn)|refine Al ?_|refine Ao ?_|refine A9 (id:=6) (m:=8) Ac Y J J J J ?_|refine AA J J J J ?_|refine CY ?_|refine Bz J J J J J J J (A2 Aa) J ?_|refine Ak Ac J J J J J J J (cb) J J ?_)
  refine AF (i+1) hlt O [] (Ad J J (Ad J J (Ad J ?_ Aq))) J
  rw[A0 O O];rfl
 ·repeat'(first|refine Ae Ac J J J ?_|refine Ag ?_|refine Ah ?_|refine Ai Ac J J ?_|(refine Af J (ht:=fun h=>?_) (hf:=fun h=>?_)<;>try exact prn)|refine AB ?_|refine Ar ?_)
  exact Au J (Sub.of_eq J)
theorem XU (l:List Prod) (hl:l.length≤1000000) (hs: ∀b∈l,b.seen.length≤1000000):Ct Tryz.prog 42 [.t (.slice .any 4 (l.map Av)),.t (.slice .any 4 (l.map Av))] [] (.t (.bool true)) []:=by
 have hlm:(l.map Av).length=l.length:=List.length_map ..
 refine ct0 Ac Tryz.func42 J false J J ?_
 repeat'(first|refine Ae Ac J J J ?_|refine Ag ?_|refine Ah ?_|refine Ai Ac J J ?_|(refine Af J (ht:=fun h=>?_) (hf:=fun h=>?_)<;>try exact prn)|refine Al ?_|refine Ao ?_)
 refine AM (ι:=Nat) (fun i=>i≤l.length) (fun i=>[(0,.t (.slice .any 4 (l.map Av))),(1,.t (.slice .any 4 (l.map Av))),(5,.t (.int .i64 i))]) (fun _=>[]) (fun i=>l.length-i) 0 Z ?_ ?_
 ·exact AR [] (Ad J J (Ad J J (Ad J J Aq))) J
 rintro i hi
 by_cases hlt:i<l.length
 ·have hr:l[i]?=some l[i]:=List.getElem?_eq_getElem hlt
  have hb:=hs l[i] (List.getElem_mem hlt)
  generalize l[i]=r at hr hb
  have cb:=Lh r r hb
  rw[decide_eq_true J]at cb
  repeat'(first|refine Ae Ac J J J ?_|refine Ag ?_|refine Ah ?_|refine Ai Ac J J ?_|(refine Af J (ht:=fun h=>?_) (hf:=fun h=>?_)<;>try exact prn)|refine Al ?_|refine Ao ?_|refine A9 (id:=6) (m:=8) Ac Y J J J J ?_|refine AA J J J J ?_|refine CY ?_|refine Bz J J J J J J J (A2 Aa) J ?_|refine Ak Ac J J J J J J J (cb) J J ?_)
  refine AF (i+1) hlt O [] (Ad J J (Ad J J (Ad J ?_ Aq))) J
  rw[A0 O O];rfl
 ·repeat'(first|refine Ae Ac J J J ?_|refine Ag ?_|refine Ah ?_|refine Ai Ac J J ?_|(refine Af J (ht:=fun h=>?_) (hf:=fun h=>?_)<;>try exact prn)|refine AB ?_|refine Ar ?_)
  exact Au J (Sub.of_eq J)
end Go.Proofs.YtpdmaenhenfofaaGreatDoor
namespace Go.Proofs.YtpdmaenhenfofaaGreatDoor
open Go.Am
attribute [local irreducible] Decidable.decide
set_option maxRecDepth 100000
set_option maxHeartbeats 1000000
theorem MR (p:Part) (hs:Bt p):Ct Tryz.prog 18 [.agg (Aj (A5 p)),.agg (Aj (A5 p))] [] (.t (.bool true)) []:=by
 obtain⟨h1,h2,h3,h4,h5⟩:=hs
 have hlo:(p.opens.map Aw).length=p.opens.length:=List.length_map ..
 have cr:=Ts p.rows p.rows O
 rw[decide_eq_true J]at cr
 have cp:=XU p.prods h4 h5
 refine ct0 Ac Tryz.func18 J false J J ?_
 repeat'(first|refine Ae Ac J J J ?_|refine Ag ?_|refine Ah ?_|refine Ai Ac J J ?_|(refine AP J J J J J (ht:=fun h=>?_) (hf:=fun h=>?_)<;>try exact prn)|(refine Af J (ht:=fun h=>?_) (hf:=fun h=>?_)<;>try exact prn)|refine Al ?_|refine Ao ?_|refine Ak Ac J J J J J J J (cr) J J ?_)
 refine AM (ι:=Nat) (fun i=>i≤p.opens.length) (fun i=>[(2,.ref 4 0),(3,.ref 6 0),(5,.t (.int .i64 i))]) (fun _=>[(6,.cells (Aj (A5 p))),(4,.cells (Aj (A5 p)))]) (fun i=>p.opens.length-i) 0 Z ?_ ?_
 ·exact AR [] (Ad J J (Ad J J (Ad J J Aq))) J
 rintro i hi
 by_cases hlt:i<p.opens.length
 ·have hr:p.opens[i]?=some p.opens[i]:=List.getElem?_eq_getElem hlt
  have hso:=h3 p.opens[i] (List.getElem_mem hlt)
  generalize p.opens[i]=r at hr hso
  have cb:=XV r.batches hso.1 hso.2
  repeat'(first|refine An Ac J J J J J ?_|refine Ae Ac J J J ?_|refine Ag ?_|refine Ah ?_|refine Ai Ac J J ?_|(refine AP J J J J J (ht:=fun h=>?_) (hf:=fun h=>?_)<;>try exact prn)|(refine Af J (ht:=fun h=>?_) (hf:=fun h=>?_)<;>try exact prn)|refine Al ?_|refine Ao ?_|refine AA J J J J ?_|refine CY ?_|refine Bz J J J J J J J (A2 Aa) J ?_|refine J4 Ac 12 10 (id:=6) (m:=13) (x0:=.agg (Aj (Aw r))) (ys:=Aj (Aw r)) Y J J J J J J J J J J Y Y J J J J J Y ?_ J|refine⟨J,J,?_⟩|refine Ak Ac J J J J J J J (cb) J J ?_)
  refine AF (i+1) hlt O [6,7] (Ad J J (Ad J J (Ad J ?_ Aq))) J
  rw[A0 O O];rfl
 ·repeat'(first|refine Ae Ac J J J ?_|refine Ag ?_|refine Ah ?_|refine Ai Ac J J ?_|(refine Af J (ht:=fun h=>?_) (hf:=fun h=>?_)<;>try exact prn)|refine AB ?_|refine Ar ?_|refine Ak Ac J J J J J J J (cp) J J ?_)
  exact Au J (Sub.of_eq J)
end Go.Proofs.YtpdmaenhenfofaaGreatDoor
namespace Go.Proofs.YtpdmaenhenfofaaGreatDoor
open Go.Am
attribute [local irreducible] Decidable.decide
set_option maxRecDepth 100000
set_option maxHeartbeats 1000000
theorem Ade {p:Part} {b:Batch} {x:Bs×Int} (h:GO p b=some x):x.2≠0:=by
 unfold GO at h
 split at h
 ·cases h
 ·split at h
  ·cases h;decide
  ·split at h
   ·cases h;decide
   ·split at h
    ·cases h;decide
    ·cases h
theorem Adf {p:Part} {b:Batch} {x:Bs×Int} (h:Hw p b=some x):x.2≠0:=by
 unfold Hw at h
 split at h
 ·rename_i y hy;cases h;exact Ade hy
 ·split at h
  ·cases h;decide
  ·cases h
def Hj (p:Part) (b:Batch):Part:=if b.txn=true then Gc p b else Co p b
def HQ (p:Part) (b:Batch):Int:=if b.txn=true then-1 else p.fin
def X6 (e q:Int) (b:Batch):List Wr:=if b.txn=true then CX (Dv e q b) [HF b]else CX (DH e q) [HF b]
theorem Nz {e q:Int} {p:Part} {b:Batch} (h:(B8 e q p b).e=0):DQ e q p=false∧A1 b=true∧B4 p.prods b=0∧((Cl p.prods b=true∧B8 e q p b=⟨p,Fa p.prods b,[],0⟩)∨(Cl p.prods b=false∧Hw p b=none∧B8 e q p b=⟨Hj p b,HQ p b,X6 e q b,0⟩)):=by
 unfold B8 at h
 split at h
 ·simp at h
 ·rename_i hn
  have h1:DQ e q p=false:=by
   cases hb:DQ e q p with
   |false=>rfl
   |true=>exact absurd (.inl hb) hn
  have h2:A1 b=true:=by
   cases hb:A1 b with
   |true=>rfl
   |false=>exact absurd (.inr hb) hn
  refine⟨h1,h2,?_⟩
  by_cases hc:B4 p.prods b=0
  ·refine⟨hc,?_⟩
   cases hi:Cl p.prods b with
   |true=>exact .inl ⟨J,by simp[B8,h1,h2,CP,hc,hi]⟩
   |false=>
    cases hr:Hw p b with
    |none=>
     refine .inr ⟨J,J,?_⟩
     cases ht:b.txn<;>simp[B8,h1,h2,CP,hc,hi,hr,ht,Hj,HQ,X6]
    |some x=>
     exfalso
     simp[CP,hc,hi,hr]at h
     exact Adf hr h
  ·exfalso
   simp[CP,hc]at h
theorem Adk {e q:Int} {p:Part} {b:Batch} (h1:DQ e q p=false) (h2:A1 b=true) (hc:B4 p.prods b=0):B8 e q p b=if Cl p.prods b=true then⟨p,Fa p.prods b,[],0⟩else match Hw p b with
  |some x=>⟨Cq,0,[],x.2⟩
  |none=>⟨Hj p b,HQ p b,X6 e q b,0⟩:=by
 cases hi:Cl p.prods b with
 |true=>simp[B8,h1,h2,CP,hc,hi]
 |false=>
  cases hr:Hw p b with
  |none=>cases ht:b.txn<;>simp[B8,h1,h2,CP,hc,hi,hr,ht,Hj,HQ,X6]
  |some x=>simp[B8,h1,h2,CP,hc,hi,hr]
theorem Aex {l l':List Prod} {b:Batch} (hl:BO l=true) (hl':BO l'=true) (h1:CK l' b.pid=CK l b.pid) (h2:AX l' b.pid=AX l b.pid):B4 l' b=B4 l b∧Cl l' b=Cl l b∧Fa l' b=Fa l b:=by
 have hc:DR l' b=DR l b:=by simp[DR,h1,h2]
 have hf:CL l' b=CL l b:=by simp[CL,h1,h2]
 simp[B4,Cl,Fa,MH,hl,hl',Ee,Hd,He,hc,hf]
theorem MK {l l':List Prod} {b:Batch} {base:Int} (h:AX l' b.pid=AX l b.pid):Bx l' b base=Bx l b base:=by
 simp[Bx,EV,h]
end Go.Proofs.YtpdmaenhenfofaaGreatDoor
