/- Contracts and laws, joined: Qe, Qf, Qg, Qh. No condition beside those that each theorem names. -/
import Derived.Test.YtpdmaenhenfofaaGreatDoorZM9
import Derived.Test.YtpdmaenhenfofaaGreatDoorZJ8
import Derived.Test.YtpdmaenhenfofaaGreatDoorZJ6
import Derived.Test.YtpdmaenhenfofaaGreatDoorZM10
set_option linter.unusedVariables false
set_option linter.unusedSimpArgs false
namespace Go.Proofs.YtpdmaenhenfofaaGreatDoor
open Go.Am
attribute [local irreducible] Decidable.decide
set_option maxRecDepth 100000
set_option maxHeartbeats 1000000
def MH (l:List Prod) (b:Batch):Bool:=BO l&&A1 b
def Fa (l:List Prod) (b:Batch):Int:=if MH l b=true then(if CL l b=true then 0 else He l b)else 0
def Cl (l:List Prod) (b:Batch):Bool:=MH l b&&Hd l b
def B4 (l:List Prod) (b:Batch):Int:=if MH l b=true then Ee l b else 2
theorem Hr (l:List Prod) (b:Batch) (hl:EN l) (hb:b.recs.length≤1000000000):Ct Tryz.prog 70 [.t (.slice .any 4 (l.map Av)),.agg (Aj (Ap b))] [] (.tuple [.t (.int .i64 (Fa l b)),.t (.bool (Cl l b)),.t (.int .i64 (B4 l b))]) []:=by
 have c1:=TV l hl
 have c2:=GV b hb
 have c3:=Aav l b hl hb
 refine ct0 Ac Tryz.func70 J false J J ?_
 cases h1:BO l with
 |false=>
  rw[h1]at c1
  have ho:MH l b=false:=by simp[MH,h1]
  repeat'(first|refine Ae Ac J J J ?_|refine Ag ?_|refine Ah ?_|refine Ai Ac J J ?_|(refine AP J J J J J (ht:=fun h=>?_) (hf:=fun h=>?_)<;>try exact prn)|(refine Af J (ht:=fun h=>?_) (hf:=fun h=>?_)<;>try exact prn)|refine Ar ?_|refine Ak Ac J J J J J J J (c1) J J ?_)
  all_goals(refine Au J (Sub.of_eq ?_);simp[Fa,Cl,B4,ho])
 |true=>
  rw[h1]at c1
  cases h2:A1 b with
  |false=>
   rw[h2]at c2
   have ho:MH l b=false:=by simp[MH,h2]
   repeat'(first|refine Ae Ac J J J ?_|refine Ag ?_|refine Ah ?_|refine Ai Ac J J ?_|(refine AP J J J J J (ht:=fun h=>?_) (hf:=fun h=>?_)<;>try exact prn)|(refine Af J (ht:=fun h=>?_) (hf:=fun h=>?_)<;>try exact prn)|refine Ar ?_|refine Ak Ac J J J J J J J (c1) J J ?_|refine Ak Ac J J J J J J J (c2) J J ?_)
   all_goals(refine Au J (Sub.of_eq ?_);simp[Fa,Cl,B4,ho])
  |true=>
   rw[h2]at c2
   have ho:MH l b=true:=by simp[MH,h1,h2]
   by_cases he:Ee l b=0
   ·have ht:Qt l b=.nilIface:=by simp[Qt,he]
    rw[ht]at c3
    repeat'(first|refine Ae Ac J J J ?_|refine Ag ?_|refine Ah ?_|refine Ai Ac J J ?_|(refine AP J J J J J (ht:=fun h=>?_) (hf:=fun h=>?_)<;>try exact prn)|(refine Af J (ht:=fun h=>?_) (hf:=fun h=>?_)<;>try exact prn)|refine Ao ?_|refine Ar ?_|refine Ak Ac J J J J J J J (c1) J J ?_|refine Ak Ac J J J J J J J (c2) J J ?_|refine Ak Ac J J J J J J J (c3) J J ?_|refine Ak Ac J J J J J J J (XS) J J ?_)
    all_goals(refine Au J (Sub.of_eq ?_);simp[Fa,Cl,B4,ho,he])
   ·have ht:Qt l b=VK b.pid (Ee l b):=by simp[Qt,he]
    rw[ht]at c3
    repeat'(first|refine Ae Ac J J J ?_|refine Ag ?_|refine Ah ?_|refine Ai Ac J J ?_|(refine AP J J J J J (ht:=fun h=>?_) (hf:=fun h=>?_)<;>try exact prn)|(refine Af J (ht:=fun h=>?_) (hf:=fun h=>?_)<;>try exact prn)|refine Ao ?_|refine Ar ?_|refine Ak Ac J J J J J J J (c1) J J ?_|refine Ak Ac J J J J J J J (c2) J J ?_|refine Ak Ac J J J J J J J (c3) J J ?_|refine Ak Ac J J J J J J J (Z9 _ _) J J ?_)
    all_goals(refine Au J (Sub.of_eq ?_);simp[Fa,Cl,B4,ho])
def HY (o:Opn):Prop:=o.batches.length≤1000000∧ ∀b∈o.batches,b.recs.length≤1000000
def ccT (o:Opn):T:=if BZ o=true then .nilIface else if 1≤o.batches.length∧o.batches.length≤8 then Cv 310 [97,32,98,97,116,99,104] 2 else Cv 310 [116,104,101,32,110,117,109,98,101,114,32,111,102,32,98,97,116,99,104,101,115] 2
theorem Pz (o:Opn) (hs:HY o):Ct Tryz.prog 156 [.agg (Aj (Aw o))] [] (.t (ccT o)) []:=by
 have hlm:(o.batches.map Ap).length=o.batches.length:=List.length_map ..
 refine ct0 Ac Tryz.func156 J false J J ?_
 by_cases hn:1≤o.batches.length∧o.batches.length≤8
 ·have hr0:o.batches[0]?=some (o.batches[0]' O):=List.getElem?_eq_getElem _
  have hf:=LI hr0
  generalize o.batches[0]' O=b0' at hr0 hf
  have hcc:BZ o=Cj o.pid o.epoch (HA o.batches) o.batches:=by simp[BZ,hn]
  rw[hf]at hcc
  repeat'(first|refine Ae Ac J J J ?_|refine Ag ?_|refine Ah ?_|refine Ai Ac J J ?_|(refine AP J J J J J (ht:=fun h=>?_) (hf:=fun h=>?_)<;>try exact prn)|(refine Af J (ht:=fun h=>?_) (hf:=fun h=>?_)<;>try exact prn)|refine Al ?_|refine Ao ?_|refine AD Ac J J J J J J J (A2 Aa) J ?_)
  all_goals try(exfalso;omega)
  refine AM (ι:=Nat×Int) (fun p=>p.1≤o.batches.length∧BZ o=Cj o.pid o.epoch p.2 (o.batches.drop p.1)) (fun p=>[(1,.ref 2 0),(3,.t (.int .i64 p.2)),(25,.t (.slice .any 5 (o.batches.map Ap))),(26,.t (.int .i64 o.batches.length)),(27,.t (.int .i64 p.1))]) (fun _=>[(2,.cells (Aj (Aw o)))]) (fun p=>o.batches.length-p.1) (0,b0'.seq) ⟨by simp,hcc⟩ ?_ ?_
  ·exact AR [] (Ad J J (Ad J J (Ad J J (Ad J (by rw[hlm]) (Ad J J Aq))))) J
  rintro⟨i,next⟩ ⟨hi,hc⟩
  simp only at hi hc
  by_cases hlt:i<o.batches.length
  ·have hr:o.batches[i]?=some o.batches[i]:=List.getElem?_eq_getElem hlt
   have hsm:=hs.2 o.batches[i] (List.getElem_mem hlt)
   generalize o.batches[i]=r at hr hsm
   rw[BE hr]at hc
   simp only[Cj]at hc
   have cm:=GV r O
   cases hm:A1 r with
   |false=>
    rw[hm]at cm hc
    repeat'(first|refine An Ac J J J J J ?_|refine Ae Ac J J J ?_|refine Ag ?_|refine Ah ?_|refine Ai Ac J J ?_|(refine Af J (ht:=fun h=>?_) (hf:=fun h=>?_)<;>try exact prn)|refine Al ?_|refine Ao ?_|refine AB ?_|refine Ar ?_|refine AD Ac J J J J J J J (A2 Aa) J ?_|refine Ak Ac J J J J J J J (cm) J J ?_)
    all_goals(refine Au J (Sub.of_eq ?_);simp at hc;simp[ccT,hc,hn,Cv])
   |true=>
    rw[hm]at cm hc
    repeat'(first|refine An Ac J J J J J ?_|refine Ae Ac J J J ?_|refine Ag ?_|refine Ah ?_|refine Ai Ac J J ?_|(refine AP J J J J J (ht:=fun h=>?_) (hf:=fun h=>?_)<;>try exact prn)|(refine Af J (ht:=fun h=>?_) (hf:=fun h=>?_)<;>try exact prn)|refine Al ?_|refine Ao ?_|refine AB ?_|refine Ar ?_|refine AD Ac J J J J J J J (A2 Aa) J ?_|refine Ak Ac J J J J J J J (cm) J J ?_|refine Ak Ac J J J J J J J (G5 r hm) J J ?_)
    all_goals first
     |(refine AF (i+1,Bo r) ⟨by simp;omega,?_⟩ (by simp;omega) [5] (Ad J J (Ad J J (Ad J J (Ad J J (Ad J (by rw[A0 O O];rfl) Aq))))) J
       rw[hc];simp_all)
     |(refine Au J (Sub.of_eq ?_)
       have hno:BZ o=false:=by rw[hc];simp_all
       simp[ccT,hno,hn,Cv])
  ·repeat'(first|refine Ae Ac J J J ?_|refine Ag ?_|refine Ah ?_|refine Ai Ac J J ?_|(refine Af J (ht:=fun h=>?_) (hf:=fun h=>?_)<;>try exact prn)|refine AB ?_|refine Ar ?_)
   refine Au J (Sub.of_eq ?_)
   have hyes:BZ o=true:=by rw[hc,List.drop_of_length_le O];rfl
   simp[ccT,hyes]
 ·have hno:BZ o=false:=by simp[BZ];intro h;omega
  repeat'(first|refine Ae Ac J J J ?_|refine Ag ?_|refine Ah ?_|refine Ai Ac J J ?_|(refine AP J J J J J (ht:=fun h=>?_) (hf:=fun h=>?_)<;>try exact prn)|(refine Af J (ht:=fun h=>?_) (hf:=fun h=>?_)<;>try exact prn)|refine Ar ?_)
  all_goals first|(exfalso;omega)|(refine Au J (Sub.of_eq ?_);rw[ccT,hno,if_neg Z,if_neg hn];rfl)
theorem W2 (o:Opn) (hs:HY o) (h:BZ o=false):Ct Tryz.prog 96 [.agg (Aj (Aw o))] [] (.tuple [.t (.slice .any 18 []),.t (.int .i64 2)]) []:=by
 have cc:=Pz o hs
 refine ct0 Ac Tryz.func96 J false J J ?_
 by_cases hn:1≤o.batches.length∧o.batches.length≤8
 ·have ht:ccT o=Cv 310 [97,32,98,97,116,99,104] 2:=by simp[ccT,h,hn]
  rw[ht]at cc
  repeat'(first|refine Ae Ac J J J ?_|refine Ag ?_|refine Ah ?_|refine Ai Ac J J ?_|(refine Af J (ht:=fun h=>?_) (hf:=fun h=>?_)<;>try exact prn)|refine Ar ?_|refine Ak Ac J J J J J J J (cc) J J ?_|refine Ak Ac J J J J J J J (RB _ _) J J ?_)
  refine Au J ?_
  exact AK ⟨A6,Sub.refl _,trivial⟩
 ·have ht:ccT o=Cv 310 [116,104,101,32,110,117,109,98,101,114,32,111,102,32,98,97,116,99,104,101,115] 2:=by simp[ccT,h,hn]
  rw[ht]at cc
  repeat'(first|refine Ae Ac J J J ?_|refine Ag ?_|refine Ah ?_|refine Ai Ac J J ?_|(refine Af J (ht:=fun h=>?_) (hf:=fun h=>?_)<;>try exact prn)|refine Ar ?_|refine Ak Ac J J J J J J J (cc) J J ?_|refine Ak Ac J J J J J J J (RB _ _) J J ?_)
  refine Au J ?_
  exact AK ⟨A6,Sub.refl _,trivial⟩
end Go.Proofs.YtpdmaenhenfofaaGreatDoor
namespace Go.Proofs.YtpdmaenhenfofaaGreatDoor
open Go.Am
attribute [local irreducible] Decidable.decide
set_option maxRecDepth 100000
set_option maxHeartbeats 1000000
def Bt (p:Part):Prop:=p.rows.length≤1000000∧p.opens.length≤1000000∧(∀o∈p.opens,HY o)∧EN p.prods
def ET (p:Part) (o:Opn):Bool:=BZ o&&(CK p.prods o.pid&&decide ((AX p.prods o.pid).epoch=o.epoch∧(AX p.prods o.pid).next=D3 o.batches))
def It (p:Part):Bool:=Fm p&&(!p.rows.any HZ&&BO p.prods)
def Er (p:Part):Bool:=It p&&p.opens.all (ET p)
def Px (p:Part):Bs:=if It p=true then(match p.opens.find? (fun o=> !ET p o)with
 |some o=>if BZ o=true then[116,104,101,32,112,114,111,100,117,99,101,114,32,111,102,32,97,110,32,111,112,101,110,32,116,114,97,110,115,97,99,116,105,111,110]else[97,110,32,111,112,101,110,32,116,114,97,110,115,97,99,116,105,111,110]
 |none=>[])else[97,32,112,97,114,116]
def enT (p:Part):T:=if Er p=true then .nilIface else Cv 97 (Px p) 2
theorem Ab6 {p:Part} {i:Nat} {o:Opn} (hh:It p=true) (ho:p.opens[i]?=some o) (hall:(p.opens.take i).all (ET p)=true) (hb:ET p o=false):Er p=false∧Px p=if BZ o=true then[116,104,101,32,112,114,111,100,117,99,101,114,32,111,102,32,97,110,32,111,112,101,110,32,116,114,97,110,115,97,99,116,105,111,110]else[97,110,32,111,112,101,110,32,116,114,97,110,115,97,99,116,105,111,110]:=by
 obtain⟨hlt,he⟩:=List.getElem?_eq_some_iff.1 ho
 have hf:p.opens.find? (fun o=> !ET p o)=some o:=by
  rw[List.find?_eq_some_iff_getElem]
  refine⟨by simp[hb],i,hlt,he,fun j hj=>?_⟩
  have hm:p.opens[j]' O∈p.opens.take i:=List.mem_take_iff_getElem.2 ⟨j,by omega,J⟩
  have:=List.all_eq_true.1 hall _ hm
  simp[this]
 refine⟨?_,by simp[Px,hh,hf]⟩
 have:p.opens.all (ET p)=false:=by
  cases ha:p.opens.all (ET p)with
  |false=>rfl
  |true=>have:=List.all_eq_true.1 ha o (List.mem_of_getElem? ho);rw[hb]at this;cases this
 simp[Er,this]
theorem R3 (p:Part) (hs:Bt p):Ct Tryz.prog 52 [.agg (Aj (A5 p))] [] (.t (enT p)) []:=by
 obtain⟨h1,h2,h3,h4⟩:=hs
 have c1:=VO p O O
 have c2:=Pu 94 [] HZ p.rows O Zd J
 have c3:=TV p.prods h4
 have hlm:(p.opens.map Aw).length=p.opens.length:=List.length_map ..
 refine ct0 Ac Tryz.func52 J false J J ?_
 cases hh:It p with
 |false=>
  have ht:enT p=Cv 97 [97,32,112,97,114,116] 2:=by simp[enT,Er,hh,Px]
  cases hr:Fm p with
  |false=>
   simp only[hr,Bool.false_eq_true,if_false]at c1
   repeat'(first|refine Ae Ac J J J ?_|refine Ag ?_|refine Ah ?_|refine Ai Ac J J ?_|(refine Af J (ht:=fun h=>?_) (hf:=fun h=>?_)<;>try exact prn)|refine Al ?_|refine AB ?_|refine Ar ?_|refine Ak Ac J J J J J J J (c1) J J ?_)
   all_goals(refine Au J (Sub.of_eq ?_);rw[ht];rfl)
  |true=>
   simp only[hr,if_true]at c1
   cases hw:p.rows.any HZ with
   |true=>
    rw[hw]at c2
    repeat'(first|refine Ae Ac J J J ?_|refine Ag ?_|refine Ah ?_|refine Ai Ac J J ?_|(refine Af J (ht:=fun h=>?_) (hf:=fun h=>?_)<;>try exact prn)|refine Al ?_|refine Ao ?_|refine AB ?_|refine Ar ?_|refine Ak Ac J J J J J J J (c1) J J ?_|refine Ak Ac J J J J J J J (c2) J J ?_)
    all_goals(refine Au J (Sub.of_eq ?_);rw[ht];rfl)
   |false=>
    rw[hw]at c2
    have hm:BO p.prods=false:=by simpa[It,hr,hw]using hh
    rw[hm]at c3
    repeat'(first|refine Ae Ac J J J ?_|refine Ag ?_|refine Ah ?_|refine Ai Ac J J ?_|(refine Af J (ht:=fun h=>?_) (hf:=fun h=>?_)<;>try exact prn)|refine Al ?_|refine Ao ?_|refine AB ?_|refine Ar ?_|refine Ak Ac J J J J J J J (c1) J J ?_|refine Ak Ac J J J J J J J (c2) J J ?_|refine Ak Ac J J J J J J J (c3) J J ?_)
    all_goals(refine Au J (Sub.of_eq ?_);rw[ht];rfl)
 |true=>
  have hh':=hh
  simp only[It,Bool.and_eq_true,Bool.not_eq_true']at hh'
  obtain⟨hr,hw,hm⟩:=hh'
  simp only[hr,if_true]at c1
  rw[hw]at c2
  rw[hm]at c3
  repeat'(first|refine Ae Ac J J J ?_|refine Ag ?_|refine Ah ?_|refine Ai Ac J J ?_|(refine Af J (ht:=fun h=>?_) (hf:=fun h=>?_)<;>try exact prn)|refine Al ?_|refine Ao ?_|refine AB ?_|refine Ak Ac J J J J J J J (c1) J J ?_|refine Ak Ac J J J J J J J (c2) J J ?_|refine Ak Ac J J J J J J J (c3) J J ?_)
  refine AM (ι:=Nat) (fun i=>i≤p.opens.length∧(p.opens.take i).all (ET p)=true) (fun i=>[(1,.ref 2 0),(26,.t (.slice .any 3 (p.opens.map Aw))),(27,.t (.int .i64 p.opens.length)),(28,.t (.int .i64 i))]) (fun _=>[(2,.cells (Aj (A5 p)))]) (fun i=>p.opens.length-i) 0 Z ?_ ?_
  ·exact AR [] (Ad J J (Ad J J (Ad J (by rw[hlm]) (Ad J J Aq)))) J
  rintro i ⟨hi,hall⟩
  by_cases hlt:i<p.opens.length
  ·have hr:p.opens[i]?=some p.opens[i]:=List.getElem?_eq_getElem hlt
   have hso:=h3 p.opens[i] (List.getElem_mem hlt)
   generalize p.opens[i]=o at hr hso
   cases hc:BZ o with
   |false=>
    have ho:ET p o=false:=by simp[ET,hc]
    obtain⟨q1,q2⟩:=Ab6 hh hr hall ho
    have ht:enT p=Cv 97 [97,110,32,111,112,101,110,32,116,114,97,110,115,97,99,116,105,111,110] 2:=by simp[enT,q1,q2,hc]
    repeat'(first|refine An Ac J J J J J ?_|refine Ae Ac J J J ?_|refine Ag ?_|refine Ah ?_|refine Ai Ac J J ?_|(refine Af J (ht:=fun h=>?_) (hf:=fun h=>?_)<;>try exact prn)|refine Al ?_|refine Ao ?_|refine Ar ?_|refine AD Ac J J J J J J J (A2 Aa) J ?_|refine Ak Ac J J J J J J J (W2 o hso hc) J J ?_)
    all_goals(refine Au J (Sub.of_eq ?_);rw[ht];rfl)
   |true=>
    have hc':=hc
    simp only[BZ,Bool.and_eq_true,decide_eq_true_eq]at hc'
    obtain⟨⟨n1,n2⟩,hch⟩:=hc'
    have hz:o.batches[o.batches.length-1]?=some (o.batches[o.batches.length-1]' O):=List.getElem?_eq_getElem _
    have hmz:=JW hch _ (List.mem_of_getElem? hz)
    have hlb:=M2 hz
    generalize o.batches[o.batches.length-1]' O=z at hz hmz hlb
    have hlmb:(o.batches.map Ap).length=o.batches.length:=List.length_map ..
    have hw':IntKind.i64.wrap (((o.batches.map Ap).length:Int)-1)=((o.batches.length-1:Nat):Int):=by rw[hlmb,A0 O O];omega
    have cfp:=OL p.prods o.pid h4
    have hoo:ET p o=(CK p.prods o.pid&&decide ((AX p.prods o.pid).epoch=o.epoch∧(AX p.prods o.pid).next=Bo z)):=by simp[ET,hc,hlb]
    generalize CK p.prods o.pid=k at cfp hoo
    generalize AX p.prods o.pid=q at cfp hoo
    have bad:ET p o=false→enT p=Cv 97 [116,104,101,32,112,114,111,100,117,99,101,114,32,111,102,32,97,110,32,111,112,101,110,32,116,114,97,110,115,97,99,116,105,111,110] 2:=fun ho=>by
     obtain⟨q1,q2⟩:=Ab6 hh hr hall ho
     simp[enT,q1,q2,hc]
    cases k with
    |false=>
     have ht:=bad (by rw[hoo];rfl)
     repeat'(first|refine An Ac J J J J J ?_|refine Ae Ac J J J ?_|refine Ag ?_|refine Ah ?_|refine Ai Ac J J ?_|(refine AP J J J J J (ht:=fun h=>?_) (hf:=fun h=>?_)<;>try exact prn)|(refine Af J (ht:=fun h=>?_) (hf:=fun h=>?_)<;>try exact prn)|refine Al ?_|refine Ao ?_|refine Ar ?_|refine AD Ac J J J J J J J (A2 Aa) J ?_|refine A9 (id:=12) (m:=21) Ac Y J J J J ?_|refine AA J J J J ?_|(refine Fi J J J J J (ht:=fun h=>?_) (hf:=fun h=>?_)<;>try exact prn)|refine Ak Ac J J J J J J J (JU o hc) J J ?_|refine Ak Ac J J J J J J J (cfp) J J ?_)
     all_goals(refine Au J (Sub.of_eq ?_);rw[ht];rfl)
    |true=>
     repeat'(first|refine An Ac J J J J J ?_|refine Ae Ac J J J ?_|refine Ag ?_|refine Ah ?_|refine Ai Ac J J ?_|(refine AP J J J J J (ht:=fun h=>?_) (hf:=fun h=>?_)<;>try exact prn)|(refine Af J (ht:=fun h=>?_) (hf:=fun h=>?_)<;>try exact prn)|refine Al ?_|refine Ao ?_|refine Ar ?_|refine AD Ac J J J J J J J (A2 Aa) J ?_|refine A9 (id:=12) (m:=21) Ac Y J J J J ?_|refine AA J J J J ?_|(refine Fi J J J J J (ht:=fun h=>?_) (hf:=fun h=>?_)<;>try exact prn)|refine Hs J J J J J J J Aa (A2 Aa) J ?_|refine Ak Ac J J J J J J J (JU o hc) J J ?_|refine Ak Ac J J J J J J J (cfp) J J ?_|refine AO J J J J J (G5 z hmz) J J ?_)
     all_goals first
      |(refine AF (i+1) ⟨hlt,?_⟩ O [4,7] (Ad J J (Ad J J (Ad J J (Ad J (by rw[A0 O O];rfl) Aq)))) J
        have hyes:ET p o=true:=by rw[hoo];simp_all
        rw[AL hr];simp[List.all_append,hall,hyes])
      |(refine Au J (Sub.of_eq ?_)
        rw[bad (by rw[hoo];simp_all)];rfl)
  ·repeat'(first|refine Ae Ac J J J ?_|refine Ag ?_|refine Ah ?_|refine Ai Ac J J ?_|(refine Af J (ht:=fun h=>?_) (hf:=fun h=>?_)<;>try exact prn)|refine AB ?_|refine Ar ?_)
   refine Au J (Sub.of_eq ?_)
   rw[List.take_of_length_le O]at hall
   simp[enT,Er,hh,hall]
end Go.Proofs.YtpdmaenhenfofaaGreatDoor
namespace Go.Proofs.YtpdmaenhenfofaaGreatDoor
open Go.Am
attribute [local irreducible] Decidable.decide
set_option maxRecDepth 100000
set_option maxHeartbeats 1000000
theorem LX (l:List Row) (hl:l.length≤1000000):Ct Tryz.prog 99 [.t (.slice .any 5 (l.map AC))] [] (.row 14 5 0 (l.map AC).length) [(14,.grow 5 (l.map AC))]:=by
 refine ct1 Ac Tryz.func99 J J ?_
 have hlm:(l.map AC).length=l.length:=List.length_map ..
 repeat'(first|refine An Ac J J J J J ?_|refine Ae Ac J J J ?_|refine Ag ?_|refine Ah ?_|refine Ai Ac J J ?_|(refine Af J (ht:=fun h=>?_) (hf:=fun h=>?_)<;>try exact prn)|refine Ao ?_|refine RL Ac J J J J J (fun _=>rfl) (fun b hb=>?_)|refine NF Ac J J J J J J J J J J J J J (by simp;omega) ?_)
 ·have h0:=hb h
  rw[h0]
  refine Tr.nilRow 2 7 5 J J ?_
  refine Ar ?_
  exact BR [] J J J (Sub.refl _)
 ·refine Ar ?_
  exact BR [] J J J (Sub.refl _)
theorem GX (b:Batch) (h:b.recs.length≤1000000):Ct Tryz.prog 73 [.agg (Aj (Ap b))] [] (.agg (Aj (Ap b))) []:=by
 refine ct0 Ac Tryz.func73 J false J J ?_
 repeat'(first|refine An Ac J J J J J ?_|refine Ae Ac J J J ?_|refine Ag ?_|refine Ah ?_|refine Ai Ac J J ?_|refine Ar ?_|refine Ak Ac J J J J J J J (LY b.recs h) J J ?_)
 exact Au J (Sub.refl _)
theorem Kz (o:Opn) (hs:HY o):Ct Tryz.prog 100 [.agg (Aj (Aw o))] [] (.agg (Aj (Aw o))) []:=by
 have hlm:(o.batches.map Ap).length=o.batches.length:=List.length_map ..
 have hs1:=hs.1
 refine ct0 Ac Tryz.func100 J false J J ?_
 repeat'(first|refine An Ac J J J J J ?_|refine Ae Ac J J J ?_|refine Ag ?_|refine Ah ?_|refine Ai Ac J J ?_|refine Al ?_)
 refine Tr.nilCell 2 2 40 5 J J J ?_
 refine AM (ι:=Nat) (fun i=>i≤o.batches.length) (fun i=>[(1,.ref 2 0),(2,.ref 4 0),(9,.t (.slice .any 5 (o.batches.map Ap))),(10,.t (.int .i64 ((o.batches.map Ap).length:Int))),(11,.t (.int .i64 i))]) (fun i=>[(80,.grow 5 ((o.batches.take i).map Ap)),(4,.cells (Aj WR.zero)),(2,.cells [.t (.int .i64 o.pid),.t (.int .i64 o.epoch),.row 80 5 0 ((o.batches.take i).map Ap).length])]) (fun i=>o.batches.length-i) 0 Z ?_ ?_
 ·exact AR [] (Ad J J (Ad J J (Ad J J (Ad J J (Ad J J Aq))))) J
 rintro i hi
 by_cases hlt:i<o.batches.length
 ·have hr:o.batches[i]?=some o.batches[i]:=List.getElem?_eq_getElem hlt
  have hsr:=hs.2 o.batches[i] (List.getElem_mem hlt)
  generalize o.batches[i]=r at hr hsr
  repeat'(first|refine An Ac J J J J J ?_|refine Ae Ac J J J ?_|refine Ag ?_|refine Ah ?_|refine Ai Ac J J ?_|(refine Af J (ht:=fun h=>?_) (hf:=fun h=>?_)<;>try exact prn)|refine Al ?_|refine Ao ?_|refine AD Ac J J J J J J J (A2 Aa) J ?_|refine AN Ac J J J J J J J J J J J J J J (by simp[AW];omega) ?_|refine A9 (id:=6) (m:=5) Ac Y J J J J ?_|refine AA J J J J ?_|refine AO J J J J J (GX r hsr) J J ?_)
  refine AF (i+1) hlt O [5] (Ad J J (Ad J J (Ad J J (Ad J J (Ad J (by rw[A0 O O];rfl) Aq))))) ?_
  have ht:(o.batches.take (i+1)).map Ap=(o.batches.take i).map Ap++[Ap r]:=by rw[AL hr];simp
  rw[ht];rfl
 ·repeat'(first|refine An Ac J J J J J ?_|refine Ae Ac J J J ?_|refine Ag ?_|refine Ah ?_|refine Ai Ac J J ?_|(refine Af J (ht:=fun h=>?_) (hf:=fun h=>?_)<;>try exact prn)|refine AB ?_|refine Ar ?_)
  refine Au J (Sub.of_eq ?_)
  rw[List.take_of_length_le O]
  simp[BA,DD,Aw,Aj]
  try exact List.take_of_length_le Z
def Lz (p:Part):St:=[(90,.grow 4 (p.prods.map Av)),(80,.grow 3 (p.opens.map Aw)),(28,.grow 5 (p.rows.map AC))]
theorem VW (p:Part) (hs:Bt p):Ct Tryz.prog 53 [.agg (Aj (A5 p))] [] (.agg [.t (.int .i64 p.start),.t (.int .i64 p.fin),.row 28 5 0 p.rows.length,.row 80 3 0 p.opens.length,.row 90 4 0 p.prods.length]) (Lz p):=by
 obtain⟨h1,h2,h3,h4,h5⟩:=hs
 have hlo:(p.opens.map Aw).length=p.opens.length:=List.length_map ..
 have hlp:(p.prods.map Av).length=p.prods.length:=List.length_map ..
 refine ct1 Ac Tryz.func53 J J ?_
 repeat'(first|refine An Ac J J J J J ?_|refine Ae Ac J J J ?_|refine Ag ?_|refine Ah ?_|refine Ai Ac J J ?_|refine Al ?_|refine A9 (id:=1) (m:=9) Ac Y J J J J ?_|refine AA J J J J ?_|refine QM J J J J J (LX p.rows h1) J J J J ?_)
 refine Tr.nilCell 6 4 45 4 J J J ?_
 refine Tr.nilCell 6 3 40 3 J J J ?_
 refine AM (ι:=Nat) (fun i=>i≤p.opens.length) (fun i=>[(1,.ref 2 0),(2,.ref 4 0),(3,.ref 6 0),(17,.t (.slice .any 3 (p.opens.map Aw))),(18,.t (.int .i64 ((p.opens.map Aw).length:Int))),(19,.t (.int .i64 i))])
  (fun i=>[(80,.grow 3 ((p.opens.take i).map Aw)),(90,.grow 4 []),(6,.cells [.t (.int .i64 p.start),.t (.int .i64 p.fin),.row 28 5 0 (p.rows.map AC).length,.row 80 3 0 ((p.opens.take i).map Aw).length,.row 90 4 0 0]),(28,.grow 5 (p.rows.map AC)),(4,.cells (Aj F8.zero)),(2,.cells (Aj (A5 p)))]) (fun i=>p.opens.length-i) 0 Z ?_ ?_
 ·exact AR [] (Ad J J (Ad J J (Ad J J (Ad J J (Ad J J (Ad J J Aq)))))) J
 rintro i hi
 by_cases hlt:i<p.opens.length
 ·have hr:p.opens[i]?=some p.opens[i]:=List.getElem?_eq_getElem hlt
  have hsr:=h3 p.opens[i] (List.getElem_mem hlt)
  generalize p.opens[i]=r at hr hsr
  repeat'(first|refine An Ac J J J J J ?_|refine Ae Ac J J J ?_|refine Ag ?_|refine Ah ?_|refine Ai Ac J J ?_|(refine Af J (ht:=fun h=>?_) (hf:=fun h=>?_)<;>try exact prn)|refine Al ?_|refine Ao ?_|refine AD Ac J J J J J J J (A2 Aa) J ?_|refine AN Ac J J J J J J J J J J J J J J (by simp[AW];omega) ?_|refine A9 (id:=5) (m:=5) Ac Y J J J J ?_|refine AA J J J J ?_|refine AO J J J J J (Kz r hsr) J J ?_)
  refine AF (i+1) hlt O [5] (Ad J J (Ad J J (Ad J J (Ad J J (Ad J J (Ad J (by rw[A0 O O];rfl) Aq)))))) ?_
  have ht:(p.opens.take (i+1)).map Aw=(p.opens.take i).map Aw++[Aw r]:=by rw[AL hr];simp
  rw[ht];rfl
 ·repeat'(first|refine Ae Ac J J J ?_|refine Ag ?_|refine Ah ?_|refine Ai Ac J J ?_|(refine Af J (ht:=fun h=>?_) (hf:=fun h=>?_)<;>try exact prn)|refine Al ?_|refine AB ?_)
  have hto:p.opens.take i=p.opens:=List.take_of_length_le O
  rw[hto]
  refine Tr.swapS J ?_
  refine AM (ι:=Nat) (fun i=>i≤p.prods.length) (fun i=>[(2,.ref 4 0),(3,.ref 6 0),(32,.t (.slice .any 4 (p.prods.map Av))),(33,.t (.int .i64 ((p.prods.map Av).length:Int))),(34,.t (.int .i64 i))])
   (fun i=>[(90,.grow 4 ((p.prods.take i).map Av)),(80,.grow 3 (p.opens.map Aw)),(6,.cells [.t (.int .i64 p.start),.t (.int .i64 p.fin),.row 28 5 0 (p.rows.map AC).length,.row 80 3 0 (p.opens.map Aw).length,.row 90 4 0 ((p.prods.take i).map Av).length]),(28,.grow 5 (p.rows.map AC)),(4,.cells (Aj F8.zero)),(2,.cells (Aj (A5 p)))]) (fun i=>p.prods.length-i) 0 Z ?_ ?_
  ·exact AR [] (Ad J J (Ad J J (Ad J J (Ad J J (Ad J J Aq))))) J
  rintro j hj
  by_cases hlj:j<p.prods.length
  ·have hr:p.prods[j]?=some p.prods[j]:=List.getElem?_eq_getElem hlj
   have hsr:=h5 p.prods[j] (List.getElem_mem hlj)
   generalize p.prods[j]=r at hr hsr
   repeat'(first|refine An Ac J J J J J ?_|refine Ae Ac J J J ?_|refine Ag ?_|refine Ah ?_|refine Ai Ac J J ?_|(refine Af J (ht:=fun h=>?_) (hf:=fun h=>?_)<;>try exact prn)|refine Al ?_|refine Ao ?_|refine AD Ac J J J J J J J (A2 Aa) J ?_|refine AN Ac J J J J J J J J J J J J J J (by simp[AW];omega) ?_|refine Ak Ac J J J J J J J (Gl r.seen hsr) J J ?_)
   refine AF (j+1) hlj O [7] (Ad J J (Ad J J (Ad J J (Ad J J (Ad J (by rw[A0 O O];rfl) Aq))))) ?_
   have ht:(p.prods.take (j+1)).map Av=(p.prods.take j).map Av++[Av r]:=by rw[AL hr];simp
   rw[ht];rfl
  ·repeat'(first|refine An Ac J J J J J ?_|refine Ae Ac J J J ?_|refine Ag ?_|refine Ah ?_|refine Ai Ac J J ?_|(refine Af J (ht:=fun h=>?_) (hf:=fun h=>?_)<;>try exact prn)|refine AB ?_|refine Ar ?_)
   have htp:p.prods.take j=p.prods:=List.take_of_length_le O
   refine BR [3,2,1] J J ?_ (Sub.of_eq ?_)
   ·rw[htp];rfl
   ·rw[htp,List.length_map,hlo,hlp];rfl
end Go.Proofs.YtpdmaenhenfofaaGreatDoor
namespace Go.Proofs.YtpdmaenhenfofaaGreatDoor
open Go.Am
attribute [local irreducible] Decidable.decide
set_option maxRecDepth 100000
set_option maxHeartbeats 1000000
def Oe (l:List Prod) (f t:Nat) (p:Prod):List Prod:=l.take f++p::l.drop t
theorem GW (l:List Prod) (f t:Nat) (p:Prod) (hl:EN l) (hf:f≤l.length) (ht:t≤l.length) (hp:p.seen.length≤1000000):Ct Tryz.prog 108 [.t (.slice .any 4 (l.map Av)),.t (.int .i64 (f:Int)),.t (.int .i64 (t:Int)),.agg (Aj (Av p))] [] (.t (.slice .any 4 ((Oe l f t p).map Av))) []:=by
 obtain⟨hl,hsm⟩:=hl
 have hlm:(l.map Av).length=l.length:=List.length_map ..
 have hcn:IntKind.i64.wrap (((l.map Av).length:Int)+1)=((l.length+1:Nat):Int):=by rw[hlm,A0 O O];rfl
 refine ct0 Ac Tryz.func108 J false J J ?_
 repeat'(first|refine Ae Ac J J J ?_|refine Ag ?_|refine Ah ?_|refine Ai Ac J J ?_|refine Al ?_|refine NE Ac J J J J J J J (l:=0) J hcn J J O O ?_|refine DL Ac (l:=0) (h:=f) J J J J J J (Do J J) FM O O (.inl ⟨J,J⟩) (show _=(l.take f).map Av by simp[List.map_take]) J ?_)
 have hft:((l.take f).map Av).length=f:=by simp;omega
 refine AM (ι:=Nat) (fun i=>i≤f) (fun i=>[(0,.t (.slice .any 4 (l.map Av))),(2,.t (.int .i64 (t:Int))),(7,.ref 14 0),(9,.row 34 4 0 ((l.take i).map Av).length),(20,.t (.slice .any 4 ((l.take f).map Av))),(21,.t (.int .i64 (f:Int))),(22,.t (.int .i64 i))]) (fun i=>[(34,.grow 4 ((l.take i).map Av)),(14,.cells (Aj (Av p)))]) (fun i=>f-i) 0 Z ?_ ?_
 ·exact AR [] (Ad J J (Ad J J (Ad J J (Ad J J (Ad J J (Ad J (by rw[hft]) (Ad J J Aq))))))) J
 rintro i hi
 by_cases hlt:i<f
 ·have hr:(l.take f)[i]?=some (l[i]' O):=by rw[List.getElem?_take,if_pos hlt];exact List.getElem?_eq_getElem _
  have hr0:l[i]?=some (l[i]' O):=List.getElem?_eq_getElem _
  have hs:=hsm (l[i]' O) (List.getElem_mem _)
  generalize l[i]' O=r at hr hr0 hs
  repeat'(first|refine An Ac J J J J J ?_|refine Ae Ac J J J ?_|refine Ag ?_|refine Ah ?_|refine Ai Ac J J ?_|(refine Af J (ht:=fun h=>?_) (hf:=fun h=>?_)<;>try exact prn)|refine Al ?_|refine Ao ?_|refine AD Ac J J J J J J J (A2 Aa) J ?_|refine AN Ac J J J J J J J J J J J J J J (by simp[AW];omega) ?_|refine Ak Ac J J J J J J J (JV r hs) J J ?_)
  refine AF (i+1) hlt O [11] (Ad J J (Ad J J (Ad J J (Ad J ?_ (Ad J J (Ad J J (Ad J (by rw[A0 O O];rfl) Aq))))))) ?_
  ·rw[AL hr0];simp[AW];rfl
  ·rw[AL hr0];simp only[List.map_append,List.map_cons,List.map_nil];rfl
 ·have hif:i=f:=by omega
  subst hif
  repeat'(first|refine An Ac J J J J J ?_|refine Ae Ac J J J ?_|refine Ag ?_|refine Ah ?_|refine Ai Ac J J ?_|(refine Af J (ht:=fun h=>?_) (hf:=fun h=>?_)<;>try exact prn)|refine Al ?_|refine AB ?_|refine AN Ac J J J J J J J J J J J J J J (by simp[AW];omega) ?_|refine Ak Ac J J J J J J J (JV p hp) J J ?_|refine DL Ac (l:=t) (h:=(l.map Av).length) J J J J J J FM (Do J J) O O (.inl ⟨J,J⟩) (show _=(l.drop t).map Av by rw[←List.map_drop,List.take_of_length_le Z]) J ?_)
  have hdt:((l.drop t).map Av).length=l.length-t:=by simp
  have e0:(l.take i).map Av++[Av p]=((l.take i++p::(l.drop t).take 0)).map Av:=by simp
  refine AM (ι:=Nat) (fun j=>j≤l.length-t) (fun j=>[(9,.row 34 4 0 ((l.take i++p::(l.drop t).take j).map Av).length),(39,.t (.slice .any 4 ((l.drop t).map Av))),(40,.t (.int .i64 ((l.length-t:Nat):Int))),(41,.t (.int .i64 j))]) (fun j=>[(34,.grow 4 ((l.take i++p::(l.drop t).take j).map Av)),(14,.cells (Aj (Av p)))]) (fun j=>l.length-t-j) 0 Z ?_ ?_
  ·exact AR [] (Ad J (by rw[←e0];rfl) (Ad J J (Ad J (by rw[hdt]) (Ad J J Aq)))) (by rw[←e0];rfl)
  rintro j hj
  by_cases hlj:j<l.length-t
  ·have hr:(l.drop t)[j]?=some (l[t+j]' O):=by rw[List.getElem?_drop];exact List.getElem?_eq_getElem _
   have hs:=hsm (l[t+j]' O) (List.getElem_mem _)
   generalize l[t+j]' O=r at hr hs
   have e1:(l.take i++p::(l.drop t).take (j+1)).map Av=(l.take i++p::(l.drop t).take j).map Av++[Av r]:=by rw[AL hr];simp
   repeat'(first|refine An Ac J J J J J ?_|refine Ae Ac J J J ?_|refine Ag ?_|refine Ah ?_|refine Ai Ac J J ?_|(refine Af J (ht:=fun h=>?_) (hf:=fun h=>?_)<;>try exact prn)|refine Al ?_|refine Ao ?_|refine AD Ac J J J J J J J (A2 Aa) J ?_|refine AN Ac J J J J J J J J J J J J J J (by simp[AW];omega) ?_|refine Ak Ac J J J J J J J (JV r hs) J J ?_)
   refine AF (j+1) hlj O [13] (Ad J ?_ (Ad J J (Ad J J (Ad J (by rw[A0 O O];rfl) Aq)))) ?_
   ·rw[e1];rfl
   ·rw[e1];rfl
  ·repeat'(first|refine Ae Ac J J J ?_|refine Ag ?_|refine Ah ?_|refine Ai Ac J J ?_|(refine Af J (ht:=fun h=>?_) (hf:=fun h=>?_)<;>try exact prn)|refine AB ?_|refine Ar ?_)
   refine Au J (Sub.of_eq ?_)
   have htj:(l.drop t).take j=l.drop t:=List.take_of_length_le (by rw[List.length_drop];omega)
   rw[htj]
   simp only[BA,Oe,Nat.beq_refl,cond_true,if_true]
   simp
   exact List.take_of_length_le Z
def Dt (l:List Prod) (p:Prod):List Prod:=match l.findIdx? (fun x=>decide (x.pid≥p.pid))with
 |some i=>if(l[i]?.map Prod.pid)=some p.pid then Oe l i (i+1) p else Oe l i i p
 |none=>Oe l l.length l.length p
theorem XP (p x:Prod):Ct Tryz.prog 178 (.agg (Aj (Av x))::Aj [.ptr (Av p)]) [] (.t (.bool (decide (x.pid≥p.pid)))) []:=by
 refine ct0 Ac Tryz.func178 J false J J ?_
 repeat'(first|refine Ae Ac J J J ?_|refine Ag ?_|refine Ah ?_|refine Ai Ac J J ?_|refine Ar ?_)
 exact Au J (Sub.refl _)
theorem Ahy (l:List Prod) (p:Prod) (hl:EN l) (hp:p.seen.length≤1000000):Ct Tryz.prog 129 [.t (.slice .any 4 (l.map Av)),.agg (Aj (Av p))] [] (.t (.slice .any 4 ((Dt l p).map Av))) []:=by
 have hlen:=hl.1
 have cf:=Ix 178 [.ptr (Av p)] (fun x=>decide (x.pid≥p.pid)) l O (XP p) J
 refine ct0 Ac Tryz.func129 J false J J ?_
 refine Ah ?_
 refine Ai Ac J J ?_
 repeat'(first|refine Ae Ac J J J ?_|refine Ag ?_)
 refine Tr.freezeBox (cs:=Av p) 3 6 J J J J ?_
 cases hh:l.any (fun x=>decide (x.pid≥p.pid))with
 |false=>
  rw[hh,OE hh]at cf
  have hs:Dt l p=Oe l l.length l.length p:=by
   have:l.findIdx? (fun x=>decide (x.pid≥p.pid))=none:=by rw[List.findIdx?_eq_none_iff];intro x hx;have:=List.any_eq_false.1 hh x hx;simpa using this
   simp[Dt,this]
  have cp:=GW l l.length l.length p hl (Nat.le_refl _) (Nat.le_refl _) hp
  repeat'(first|refine Ae Ac J J J ?_|refine Ag ?_|refine Ah ?_|refine Ai Ac J J ?_|(refine AZ J J J J J (ht:=fun h=>?_) (hf:=fun h=>?_)<;>try exact prn)|(refine Af J (ht:=fun h=>?_) (hf:=fun h=>?_)<;>try exact prn)|refine Ao ?_|refine Ar ?_|refine A9 (id:=2) (m:=9) Ac Y J J J J ?_|refine AA J J J J ?_|(refine EQ J J J J J (ht:=fun h=>?_) (hf:=fun h=>?_)<;>try exact prn)|refine Ak Ac J J J J J J J (cf) J J ?_|refine Ak Ac J J J J J J J (cp) J J ?_)
  exact Au J (Sub.of_eq (by rw[hs]))
 |true=>
  obtain⟨i,x,hx,hi,_,_⟩:=JK hh
  rw[hh,hi]at cf
  have hlt:=(List.getElem?_eq_some_iff.1 hx).1
  have hfi:l.findIdx? (fun x=>decide (x.pid≥p.pid))=some i:=by
   unfold Nn at hi
   cases hf:l.findIdx? (fun x=>decide (x.pid≥p.pid))with
   |none=>rw[hf]at hi;simp at hi;omega
   |some j=>rw[hf]at hi;simp at hi;exact congrArg some O
  have cp0:=GW l i i p hl O O hp
  have cp1:=GW l i (i+1) p hl O O hp
  have hw:IntKind.i64.wrap ((i:Int)+1)=((i+1:Nat):Int):=by rw[A0 O O];rfl
  repeat'(first|refine Ae Ac J J J ?_|refine Ag ?_|refine Ah ?_|refine Ai Ac J J ?_|(refine AZ J J J J J (ht:=fun h=>?_) (hf:=fun h=>?_)<;>try exact prn)|(refine Af J (ht:=fun h=>?_) (hf:=fun h=>?_)<;>try exact prn)|refine Ao ?_|refine Ar ?_|refine A9 (id:=2) (m:=9) Ac Y J J J J ?_|refine AA J J J J ?_|(refine EQ J J J J J (ht:=fun h=>?_) (hf:=fun h=>?_)<;>try exact prn)|refine Bz J J J J J J J (A2 Aa) J ?_|refine Ak Ac J J J J J J J (cf) J J ?_|refine Ak Ac J J J J J J J (cp0) J J ?_|refine Ak Ac J J J J J J J (hw▸cp1) J J ?_)
  all_goals(refine Au J (Sub.of_eq ?_);simp_all[Dt])
end Go.Proofs.YtpdmaenhenfofaaGreatDoor
