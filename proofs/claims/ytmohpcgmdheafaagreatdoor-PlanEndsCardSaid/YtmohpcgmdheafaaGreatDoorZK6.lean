/- Contracts and laws, joined: Qe, Qf, Qh, Qg, Qi, Qj, Ql. No condition beside those that each theorem names. -/
import Derived.Test.YtmohpcgmdheafaaGreatDoorZK5
import Derived.Test.YtmohpcgmdheafaaGreatDoorZJ6
set_option linter.unusedVariables false
set_option linter.unusedSimpArgs false
set_option maxRecDepth 100000
set_option maxHeartbeats 8000000
namespace Go.Proofs.YtmohpcgmdheafaaGreatDoor
open Go.Am
attribute [local irreducible] Decidable.decide Tr A2 hSK hSW
def Atd (l:List Prod) (b:Batch):Bool:=Ef l&&A9 b
def Ate (l:List Prod) (b:Batch):Int:=if Atd l b=true then(if Z3 l b=true then 0 else Anb l b)else 0
def Azb (l:List Prod) (b:Batch):Bool:=Atd l b&&Azc l b
def Abx (l:List Prod) (b:Batch):Int:=if Atd l b=true then Atf l b else 2
def JQ (o:Opn):Prop:=o.batches.length<=1000000/\ ∀b∈o.batches,b.recs.length<=1000000
def ccT (o:Opn):T:=if B6 o=true then .nilIface else if 1<=o.batches.length/\o.batches.length<=8 then CE 398 [97,32,98,97,116,99,104] 2 else CE 398 [116,104,101,32,110,117,109,98,101,114,32,111,102,32,98,97,116,99,104,101,115] 2
theorem Sm (o:Opn) (hs:JQ o):A17 270 [.agg (Ah (As o))] [] (.t (ccT o)) []:=by
 have hlm:(o.batches.map Au).length=o.batches.length:=List.length_map ..
 refine ct0 Ag Tryz.func270 Y false Y Y ?_
 by_cases hn:1<=o.batches.length/\o.batches.length<=8
 ·have hr0:o.batches[0]?=some (o.batches[0]' Aa):=List.getElem?_eq_getElem _
  have hf:=Js hr0
  generalize o.batches[0]' Aa=b0' at hr0 hf
  have hcc:B6 o=C2 o.pid o.epoch (IA o.batches) o.batches:=by simp[B6,hn]
  rw[hf]at hcc
  repeat'(first|exact prB|refine stC ?_|refine stU (fun h=>?_) fun h=>?_|refine stN (fun b hb=>?_)|refine G5 (kc:=0) Ag Y Y Y Y Y Y Y (CL hr0) Y ?_|fail)
  all_goals try(exfalso;omega)
  refine A3 (ι:=Nat×Int) (fun p=>p.1<=o.batches.length/\B6 o=C2 o.pid o.epoch p.2 (o.batches.drop p.1)) (fun p=>[(1,.ref 2 0),(3,.t (.int .i64 p.2)),(25,.t (.slice .any 5 (o.batches.map Au))),(26,.t (.int .i64 o.batches.length)),(27,.t (.int .i64 p.1))]) (fun _=>[(2,.cells (Ah (As o)))]) (fun p=>o.batches.length-p.1) (0,b0'.seq) ⟨by simp,hcc⟩ ?_ ?_
  ·exact AE [] (Af Y Y (Af Y Y (Af Y Y (Af Y (by rw[hlm]) (Af Y Y Aj))))) Y
  rintro⟨i,next⟩ ⟨hi,hc⟩
  simp only at hi hc
  by_cases hlt:i<o.batches.length
  ·have hr:o.batches[i]?=some o.batches[i]:=List.getElem?_eq_getElem hlt
   have hsm:=hs.2 o.batches[i] (List.getElem_mem hlt)
   generalize o.batches[i]=r at hr hsm
   rw[Db hr]at hc
   simp only[C2]at hc
   have cm:=Fl r Aa
   cases hm:A9 r with
   |false=>
    rw[hm]at cm hc
    repeat'(first|exact prB|refine stC ?_|refine stU (fun h=>?_) fun h=>?_|refine stN (fun b hb=>?_)|refine stL ?_ (c:=cm)|fail)
    all_goals(refine Ai Y (A1y ?_);simp at hc;simp[ccT,hc,hn,CE])
   |true=>
    rw[hm]at cm hc
    repeat'(first|exact prB|refine stC ?_|refine stU (fun h=>?_) fun h=>?_|refine stN (fun b hb=>?_)|refine stL ?_ (c:=cm)|refine stL ?_ (c:=Hf r hm)|fail)
    all_goals first
     |(refine Ay (i+1,DK r) ⟨by simp;omega,?_⟩ (by simp;omega) [5] (Af Y Y (Af Y Y (Af Y Y (Af Y Y (Af Y (by rw[An Aa Aa];rfl) Aj))))) Y
       rw[hc];simp_all)
     |(refine Ai Y (A1y ?_)
       have hno:B6 o=false:=by rw[hc];simp_all
       simp[ccT,hno,hn,CE])
  ·repeat'(first|exact prB|refine stC ?_|refine stU (fun h=>?_) fun h=>?_|refine stN (fun b hb=>?_)|fail)
   refine Ai Y (A1y ?_)
   have hyes:B6 o=true:=by rw[hc,List.drop_of_length_le Aa];rfl
   simp[ccT,hyes]
 ·have hno:B6 o=false:=by simp[B6];intro h;omega
  repeat'(first|exact prB|refine stC ?_|refine stU (fun h=>?_) fun h=>?_|refine stN (fun b hb=>?_)|fail)
  all_goals first|(exfalso;omega)|(refine Ai Y (A1y ?_);rw[ccT,hno,if_neg Ac,if_neg hn];rfl)
theorem ZC (o:Opn) (hs:JQ o) (h:B6 o=false):A17 200 [.agg (Ah (As o))] [] (.tuple [.t (.slice .any 18 []),.t (.int .i64 2)]) []:=by
 have cc:=Sm o hs
 refine ct0 Ag Tryz.func200 Y false Y Y ?_
 by_cases hn:1<=o.batches.length/\o.batches.length<=8
 ·have ht:ccT o=CE 398 [97,32,98,97,116,99,104] 2:=by simp[ccT,h,hn]
  rw[ht]at cc
  repeat'(first|exact prB|refine stC ?_|refine stU (fun h=>?_) fun h=>?_|refine stN (fun b hb=>?_)|refine stL ?_ (c:=cc)|refine stL ?_ (c:=Ud _ _)|fail)
  refine Ai Y ?_
  exact Ap ⟨Ak,A1x _,trivial⟩
 ·have ht:ccT o=CE 398 [116,104,101,32,110,117,109,98,101,114,32,111,102,32,98,97,116,99,104,101,115] 2:=by simp[ccT,h,hn]
  rw[ht]at cc
  repeat'(first|exact prB|refine stC ?_|refine stU (fun h=>?_) fun h=>?_|refine stN (fun b hb=>?_)|refine stL ?_ (c:=cc)|refine stL ?_ (c:=Ud _ _)|fail)
  refine Ai Y ?_
  exact Ap ⟨Ak,A1x _,trivial⟩
def AR (p:Part):Prop:=p.rows.length<=1000000/\p.opens.length<=1000000/\(∀o∈p.opens,JQ o)/\KK p.prods
def CT (p:Part) (o:Opn):Bool:=B6 o&&(FE p.prods o.pid&&decide ((BM p.prods o.pid).epoch=o.epoch/\(BM p.prods o.pid).next=Hj o.batches))
def FQ (p:Part):Bool:=DR p&&(!p.rows.any EM&&Ef p.prods)
def Bb (p:Part):Bool:=FQ p&&p.opens.all (CT p)
def Px (p:Part):Bs:=if FQ p=true then(match p.opens.find? (fun o=> !CT p o)with
 |some o=>if B6 o=true then[116,104,101,32,112,114,111,100,117,99,101,114,32,111,102,32,97,110,32,111,112,101,110,32,116,114,97,110,115,97,99,116,105,111,110]else[97,110,32,111,112,101,110,32,116,114,97,110,115,97,99,116,105,111,110]
 |none=>[])else[97,32,112,97,114,116]
def enT (p:Part):T:=if Bb p=true then .nilIface else CE 231 (Px p) 2
theorem Aji {p:Part} {i:Nat} {o:Opn} (hh:FQ p=true) (ho:p.opens[i]?=some o) (hall:(p.opens.take i).all (CT p)=true) (hb:CT p o=false):Bb p=false/\Px p=if B6 o=true then[116,104,101,32,112,114,111,100,117,99,101,114,32,111,102,32,97,110,32,111,112,101,110,32,116,114,97,110,115,97,99,116,105,111,110]else[97,110,32,111,112,101,110,32,116,114,97,110,115,97,99,116,105,111,110]:=by
 obtain⟨hlt,he⟩:=List.getElem?_eq_some_iff.1 ho
 have hf:p.opens.find? (fun o=> !CT p o)=some o:=by
  rw[List.find?_eq_some_iff_getElem]
  refine⟨by simp[hb],i,hlt,he,fun j hj=>?_⟩
  have hm:p.opens[j]' Aa∈p.opens.take i:=List.mem_take_iff_getElem.2 ⟨j,by omega,Y⟩
  have:=List.all_eq_true.1 hall _ hm
  simp[this]
 refine⟨?_,by simp[Px,hh,hf]⟩
 have:p.opens.all (CT p)=false:=by
  cases ha:p.opens.all (CT p)with
  |false=>rfl
  |true=>have:=List.all_eq_true.1 ha o (List.mem_of_getElem? ho);rw[hb]at this;cases this
 simp[Bb,this]
theorem TX (p:Part) (hs:AR p):A17 126 [.agg (Ah (AD p))] [] (.t (enT p)) []:=by
 obtain⟨h1,h2,h3,h4⟩:=hs
 have c1:=YL p Aa Aa
 have c2:=Sg 198 [] EM p.rows Aa Afh Y
 have c3:=Ahv p.prods h4
 have hlm:(p.opens.map As).length=p.opens.length:=List.length_map ..
 refine ct0 Ag Tryz.func126 Y false Y Y ?_
 cases hh:FQ p with
 |false=>
  have ht:enT p=CE 231 [97,32,112,97,114,116] 2:=by simp[enT,Bb,hh,Px]
  cases hr:DR p with
  |false=>
   simp only[hr,Bool.false_eq_true,if_false]at c1
   repeat'(first|exact prB|refine stC ?_|refine stU (fun h=>?_) fun h=>?_|refine stN (fun b hb=>?_)|refine stD 12 21 ?_|refine stL ?_ (c:=c1)|fail)
   all_goals(refine Ai Y (A1y ?_);rw[ht];rfl)
  |true=>
   simp only[hr,if_true]at c1
   cases hw:p.rows.any EM with
   |true=>
    rw[hw]at c2
    repeat'(first|exact prB|refine stC ?_|refine stU (fun h=>?_) fun h=>?_|refine stN (fun b hb=>?_)|refine stD 12 21 ?_|refine stL ?_ (c:=c1)|refine stL ?_ (c:=c2)|fail)
    all_goals(refine Ai Y (A1y ?_);rw[ht];rfl)
   |false=>
    rw[hw]at c2
    have hm:Ef p.prods=false:=by simpa[FQ,hr,hw]using hh
    rw[hm]at c3
    repeat'(first|exact prB|refine stC ?_|refine stU (fun h=>?_) fun h=>?_|refine stN (fun b hb=>?_)|refine stD 12 21 ?_|refine stL ?_ (c:=c1)|refine stL ?_ (c:=c2)|refine stL ?_ (c:=c3)|fail)
    all_goals(refine Ai Y (A1y ?_);rw[ht];rfl)
 |true=>
  have hh':=hh
  simp only[FQ,Bool.and_eq_true,Bool.not_eq_true']at hh'
  obtain⟨hr,hw,hm⟩:=hh'
  simp only[hr,if_true]at c1
  rw[hw]at c2
  rw[hm]at c3
  repeat'(first|exact prB|refine stC ?_|refine stU (fun h=>?_) fun h=>?_|refine stN (fun b hb=>?_)|refine stD 12 21 ?_|refine stL ?_ (c:=c1)|refine stL ?_ (c:=c2)|refine stL ?_ (c:=c3)|fail)
  refine A3 (ι:=Nat) (fun i=>i<=p.opens.length/\(p.opens.take i).all (CT p)=true) (fun i=>[(1,.ref 2 0),(26,.t (.slice .any 3 (p.opens.map As))),(27,.t (.int .i64 p.opens.length)),(28,.t (.int .i64 i))]) (fun _=>[(2,.cells (Ah (AD p)))]) (fun i=>p.opens.length-i) 0 Ac ?_ ?_
  ·exact AE [] (Af Y Y (Af Y Y (Af Y (by rw[hlm]) (Af Y Y Aj)))) Y
  rintro i ⟨hi,hall⟩
  by_cases hlt:i<p.opens.length
  ·have hr:p.opens[i]?=some p.opens[i]:=List.getElem?_eq_getElem hlt
   have hso:=h3 p.opens[i] (List.getElem_mem hlt)
   generalize p.opens[i]=o at hr hso
   cases hc:B6 o with
   |false=>
    have ho:CT p o=false:=by simp[CT,hc]
    obtain⟨q1,q2⟩:=Aji hh hr hall ho
    have ht:enT p=CE 231 [97,110,32,111,112,101,110,32,116,114,97,110,115,97,99,116,105,111,110] 2:=by simp[enT,q1,q2,hc]
    repeat'(first|exact prB|refine stC ?_|refine stU (fun h=>?_) fun h=>?_|refine stN (fun b hb=>?_)|refine stD 12 21 ?_|refine stL ?_ (c:=ZC o hso hc)|fail)
    all_goals(refine Ai Y (A1y ?_);rw[ht];rfl)
   |true=>
    have hc':=hc
    simp only[B6,Bool.and_eq_true,decide_eq_true_eq]at hc'
    obtain⟨⟨n1,n2⟩,hch⟩:=hc'
    have hz:o.batches[o.batches.length-1]?=some (o.batches[o.batches.length-1]' Aa):=List.getElem?_eq_getElem _
    have hmz:=Ls hch _ (List.mem_of_getElem? hz)
    have hlb:=I6 hz
    generalize o.batches[o.batches.length-1]' Aa=z at hz hmz hlb
    have hlmb:(o.batches.map Au).length=o.batches.length:=List.length_map ..
    have hw':IntKind.i64.wrap (((o.batches.map Au).length:Int)-1)=((o.batches.length-1:Nat):Int):=by rw[hlmb,An Aa Aa];omega
    have cfp:=Aiq p.prods o.pid h4
    have hoo:CT p o=(FE p.prods o.pid&&decide ((BM p.prods o.pid).epoch=o.epoch/\(BM p.prods o.pid).next=DK z)):=by simp[CT,hc,hlb]
    generalize FE p.prods o.pid=k at cfp hoo
    generalize BM p.prods o.pid=q at cfp hoo
    have bad:CT p o=false->enT p=CE 231 [116,104,101,32,112,114,111,100,117,99,101,114,32,111,102,32,97,110,32,111,112,101,110,32,116,114,97,110,115,97,99,116,105,111,110] 2:=fun ho=>by
     obtain⟨q1,q2⟩:=Aji hh hr hall ho
     simp[enT,q1,q2,hc]
    cases k with
    |false=>
     have ht:=bad (by rw[hoo];rfl)
     repeat'(first|exact prB|refine stC ?_|refine stU (fun h=>?_) fun h=>?_|refine stN (fun b hb=>?_)|refine stD 12 21 ?_|refine stL ?_ (c:=Lq o hc)|refine stL ?_ (c:=cfp)|fail)
     all_goals(refine Ai Y (A1y ?_);rw[ht];rfl)
    |true=>
     repeat'(first|exact prB|refine stC ?_|refine stU (fun h=>?_) fun h=>?_|refine stN (fun b hb=>?_)|refine stD 12 21 ?_|refine stL ?_ (c:=Lq o hc)|refine stL ?_ (c:=cfp)|refine stL ?_ (c:=Hf z hmz)|refine stM ?_ (c:=Hf z hmz)|fail)
     all_goals first
      |(refine Ay (i+1) ⟨hlt,?_⟩ Aa [4,7] (Af Y Y (Af Y Y (Af Y Y (Af Y (by rw[An Aa Aa];rfl) Aj)))) Y
        have hyes:CT p o=true:=by rw[hoo];simp_all
        rw[A5 hr];simp[List.all_append,hall,hyes])
      |(refine Ai Y (A1y ?_)
        rw[bad (by rw[hoo];simp_all)];rfl)
  ·repeat'(first|exact prB|refine stC ?_|refine stU (fun h=>?_) fun h=>?_|refine stN (fun b hb=>?_)|refine stD 12 21 ?_|fail)
   refine Ai Y (A1y ?_)
   rw[List.take_of_length_le Aa]at hall
   simp[enT,Bb,hh,hall]
def S2 (l:List Prod) (f t:Nat) (p:Prod):List Prod:=l.take f++p::l.drop t
theorem Ww (l:List Prod) (f t:Nat) (p:Prod) (hl:KK l) (hf:f<=l.length) (ht:t<=l.length) (hp:p.seen.length<=1000000):A17 145 [.t (.slice .any 4 (l.map Al)),.t (.int .i64 (f:Int)),.t (.int .i64 (t:Int)),.agg (Ah (Al p))] [] (.t (.slice .any 4 ((S2 l f t p).map Al))) []:=by
 obtain⟨hl,hsm⟩:=hl
 have hlm:(l.map Al).length=l.length:=List.length_map ..
 have hcn:IntKind.i64.wrap (((l.map Al).length:Int)+1)=((l.length+1:Nat):Int):=by rw[hlm,An Aa Aa];rfl
 refine ct0 Ag Tryz.func145 Y false Y Y ?_
 repeat'(first|exact prB|refine stC ?_|refine stU (fun h=>?_) fun h=>?_|refine stN (fun b hb=>?_)|refine Dn Ag Y Y Y Y Y Y Y (l:=0) Y hcn Y Y Aa Aa ?_|refine KF Ag (l:=0) (h:=f) Y Y Y Y Y Y (Up Y Y) Uo Aa Aa (.inl ⟨Y,Y⟩) (show _=(l.take f).map Al by simp[List.map_take]) Y ?_|fail)
 have hft:((l.take f).map Al).length=f:=by simp;omega
 refine A3 (ι:=Nat) (fun i=>i<=f) (fun i=>[(0,.t (.slice .any 4 (l.map Al))),(2,.t (.int .i64 (t:Int))),(7,.ref 14 0),(9,.row 34 4 0 ((l.take i).map Al).length),(20,.t (.slice .any 4 ((l.take f).map Al))),(21,.t (.int .i64 (f:Int))),(22,.t (.int .i64 i))]) (fun i=>[(34,.grow 4 ((l.take i).map Al)),(14,.cells (Ah (Al p)))]) (fun i=>f-i) 0 Ac ?_ ?_
 ·exact AE [] (Af Y Y (Af Y Y (Af Y Y (Af Y Y (Af Y Y (Af Y (by rw[hft]) (Af Y Y Aj))))))) Y
 rintro i hi
 by_cases hlt:i<f
 ·have hr:(l.take f)[i]?=some (l[i]' Aa):=by rw[List.getElem?_take,if_pos hlt];exact List.getElem?_eq_getElem _
  have hr0:l[i]?=some (l[i]' Aa):=List.getElem?_eq_getElem _
  have hs:=hsm (l[i]' Aa) (List.getElem_mem _)
  generalize l[i]' Aa=r at hr hr0 hs
  repeat'(first|exact prB|refine stC ?_|refine stU (fun h=>?_) fun h=>?_|refine stN (fun b hb=>?_)|refine stL ?_ (c:=Lr r hs)|fail)
  refine Ay (i+1) hlt Aa [11] (Af Y Y (Af Y Y (Af Y Y (Af Y ?_ (Af Y Y (Af Y Y (Af Y (by rw[An Aa Aa];rfl) Aj))))))) ?_
  ·rw[A5 hr0];simp[Bq];rfl
  ·rw[A5 hr0];simp only[List.map_append,List.map_cons,List.map_nil];rfl
 ·have hif:i=f:=by omega
  subst hif
  repeat'(first|exact prB|refine stC ?_|refine stU (fun h=>?_) fun h=>?_|refine stN (fun b hb=>?_)|refine stL ?_ (c:=Lr p hp)|refine KF Ag (l:=t) (h:=(l.map Al).length) Y Y Y Y Y Y Uo (Up Y Y) Aa Aa (.inl ⟨Y,Y⟩) (show _=(l.drop t).map Al by rw[<-List.map_drop,List.take_of_length_le Ac]) Y ?_|fail)
  have hdt:((l.drop t).map Al).length=l.length-t:=by simp
  have e0:(l.take i).map Al++[Al p]=((l.take i++p::(l.drop t).take 0)).map Al:=by simp
  refine A3 (ι:=Nat) (fun j=>j<=l.length-t) (fun j=>[(9,.row 34 4 0 ((l.take i++p::(l.drop t).take j).map Al).length),(39,.t (.slice .any 4 ((l.drop t).map Al))),(40,.t (.int .i64 ((l.length-t:Nat):Int))),(41,.t (.int .i64 j))]) (fun j=>[(34,.grow 4 ((l.take i++p::(l.drop t).take j).map Al)),(14,.cells (Ah (Al p)))]) (fun j=>l.length-t-j) 0 Ac ?_ ?_
  ·exact AE [] (Af Y (by rw[<-e0];rfl) (Af Y Y (Af Y (by rw[hdt]) (Af Y Y Aj)))) (by rw[<-e0];rfl)
  rintro j hj
  by_cases hlj:j<l.length-t
  ·have hr:(l.drop t)[j]?=some (l[t+j]' Aa):=by rw[List.getElem?_drop];exact List.getElem?_eq_getElem _
   have hs:=hsm (l[t+j]' Aa) (List.getElem_mem _)
   generalize l[t+j]' Aa=r at hr hs
   have e1:(l.take i++p::(l.drop t).take (j+1)).map Al=(l.take i++p::(l.drop t).take j).map Al++[Al r]:=by rw[A5 hr];simp
   repeat'(first|exact prB|refine stC ?_|refine stU (fun h=>?_) fun h=>?_|refine stN (fun b hb=>?_)|refine stL ?_ (c:=Lr r hs)|fail)
   refine Ay (j+1) hlj Aa [13] (Af Y ?_ (Af Y Y (Af Y Y (Af Y (by rw[An Aa Aa];rfl) Aj)))) ?_
   ·rw[e1];rfl
   ·rw[e1];rfl
  ·repeat'(first|exact prB|refine stC ?_|refine stU (fun h=>?_) fun h=>?_|refine stN (fun b hb=>?_)|fail)
   refine Ai Y (A1y ?_)
   have htj:(l.drop t).take j=l.drop t:=List.take_of_length_le (by rw[List.length_drop];omega)
   rw[htj]
   simp only[B5,S2,Nat.beq_refl,cond_true,if_true]
   simp
   exact List.take_of_length_le Ac
def Sy (l:List Prod) (p:Prod):List Prod:=match l.findIdx? (fun x=>decide (x.pid>=p.pid))with
 |some i=>if(l[i]?.map Prod.pid)=some p.pid then S2 l i (i+1) p else S2 l i i p
 |none=>S2 l l.length l.length p
theorem V0 (l:List Row) (hl:l.length<=1000000):A17 136 [.t (.slice .any 5 (l.map A8))] [] (.row 14 5 0 (l.map A8).length) [(14,.grow 5 (l.map A8))]:=by
 refine ct1 Ag Tryz.func136 Y Y ?_
 have hlm:(l.map A8).length=l.length:=List.length_map ..
 repeat'(first|exact prB|refine stB ?_|refine stU (fun h=>?_) fun h=>?_|refine stN (fun b hb=>?_)|refine LH Ag Y Y Y Y Y Y Y Y Y Y Y Y Y (by simp;omega) ?_|fail)
 ·have h0:=hb h
  rw[h0]
  refine A1z 2 7 5 Y Y ?_
  refine Ca ?_
  exact Ba [] Y Y Y (A1x _)
 ·refine Ca ?_
  exact Ba [] Y Y Y (A1x _)
theorem W6 (b:Batch) (h:b.recs.length<=1000000):A17 212 [.agg (Ah (Au b))] [] (.agg (Ah (Au b))) []:=by
 refine ct0 Ag Tryz.func212 Y false Y Y ?_
 repeat'(first|exact prB|refine stC ?_|refine stU (fun h=>?_) fun h=>?_|refine stN (fun b hb=>?_)|refine stL ?_ (c:=V1 b.recs h)|fail)
 exact Ai Y (A1x _)
theorem Rq (o:Opn) (hs:JQ o):A17 137 [.agg (Ah (As o))] [] (.agg (Ah (As o))) []:=by
 have hlm:(o.batches.map Au).length=o.batches.length:=List.length_map ..
 have hs1:=hs.1
 refine ct0 Ag Tryz.func137 Y false Y Y ?_
 repeat'(first|exact prB|refine stC ?_|refine stU (fun h=>?_) fun h=>?_|refine stN (fun b hb=>?_)|refine stD 6 5 ?_|fail)
 refine A13 2 2 40 5 Y Y Y ?_
 refine A3 (ι:=Nat) (fun i=>i<=o.batches.length) (fun i=>[(1,.ref 2 0),(2,.ref 4 0),(9,.t (.slice .any 5 (o.batches.map Au))),(10,.t (.int .i64 ((o.batches.map Au).length:Int))),(11,.t (.int .i64 i))]) (fun i=>[(80,.grow 5 ((o.batches.take i).map Au)),(4,.cells (Ah VQ.zero)),(2,.cells [.t (.int .i64 o.pid),.t (.int .i64 o.epoch),.row 80 5 0 ((o.batches.take i).map Au).length])]) (fun i=>o.batches.length-i) 0 Ac ?_ ?_
 ·exact AE [] (Af Y Y (Af Y Y (Af Y Y (Af Y Y (Af Y Y Aj))))) Y
 rintro i hi
 by_cases hlt:i<o.batches.length
 ·have hr:o.batches[i]?=some o.batches[i]:=List.getElem?_eq_getElem hlt
  have hsr:=hs.2 o.batches[i] (List.getElem_mem hlt)
  generalize o.batches[i]=r at hr hsr
  repeat'(first|exact prB|refine stC ?_|refine stU (fun h=>?_) fun h=>?_|refine stN (fun b hb=>?_)|refine stD 6 5 ?_|refine Afy (id:=6) Ag [0,6] 5 Ab Y Y Y Y Y Y (by rintro ch e s ⟨hx,_⟩;rcases hx with hx|hx<;>cases hx) ?_|refine stM ?_ (c:=W6 r hsr)|fail)
  refine Ay (i+1) hlt Aa [5] (Af Y Y (Af Y Y (Af Y Y (Af Y Y (Af Y (by rw[An Aa Aa];rfl) Aj))))) ?_
  have ht:(o.batches.take (i+1)).map Au=(o.batches.take i).map Au++[Au r]:=by rw[A5 hr];simp
  rw[ht];rfl
 ·repeat'(first|exact prB|refine stC ?_|refine stU (fun h=>?_) fun h=>?_|refine stN (fun b hb=>?_)|refine stD 6 5 ?_|fail)
  refine Ai Y (A1y ?_)
  rw[List.take_of_length_le Aa]
  simp[B5,FF,As,Ah]
  try exact List.take_of_length_le Ac
def Aay (p:Part):St:=[(90,.grow 4 (p.prods.map Al)),(80,.grow 3 (p.opens.map As)),(28,.grow 5 (p.rows.map A8))]
theorem Ase (p:Part) (hs:AR p):A17 75 [.agg (Ah (AD p))] [] (.agg [.t (.int .i64 p.start),.t (.int .i64 p.fin),.row 28 5 0 p.rows.length,.row 80 3 0 p.opens.length,.row 90 4 0 p.prods.length]) (Aay p):=by
 obtain⟨h1,h2,h3,h4,h5⟩:=hs
 have hlo:(p.opens.map As).length=p.opens.length:=List.length_map ..
 have hlp:(p.prods.map Al).length=p.prods.length:=List.length_map ..
 refine ct1 Ag Tryz.func75 Y Y ?_
 repeat'(first|exact prB|refine stC ?_|refine stU (fun h=>?_) fun h=>?_|refine stN (fun b hb=>?_)|refine stD 1 9 ?_|refine stD 5 5 ?_|refine Acs Y Y Y Y Y (V0 p.rows h1) Y Y Y Y ?_|fail)
 refine A13 6 4 45 4 Y Y Y ?_
 refine A13 6 3 40 3 Y Y Y ?_
 refine A3 (ι:=Nat) (fun i=>i<=p.opens.length) (fun i=>[(1,.ref 2 0),(2,.ref 4 0),(3,.ref 6 0),(17,.t (.slice .any 3 (p.opens.map As))),(18,.t (.int .i64 ((p.opens.map As).length:Int))),(19,.t (.int .i64 i))])
  (fun i=>[(80,.grow 3 ((p.opens.take i).map As)),(90,.grow 4 []),(6,.cells [.t (.int .i64 p.start),.t (.int .i64 p.fin),.row 28 5 0 (p.rows.map A8).length,.row 80 3 0 ((p.opens.take i).map As).length,.row 90 4 0 0]),(28,.grow 5 (p.rows.map A8)),(4,.cells (Ah Yw.zero)),(2,.cells (Ah (AD p)))]) (fun i=>p.opens.length-i) 0 Ac ?_ ?_
 ·exact AE [] (Af Y Y (Af Y Y (Af Y Y (Af Y Y (Af Y Y (Af Y Y Aj)))))) Y
 rintro i hi
 by_cases hlt:i<p.opens.length
 ·have hr:p.opens[i]?=some p.opens[i]:=List.getElem?_eq_getElem hlt
  have hsr:=h3 p.opens[i] (List.getElem_mem hlt)
  generalize p.opens[i]=r at hr hsr
  repeat'(first|exact prB|refine stC ?_|refine stU (fun h=>?_) fun h=>?_|refine stN (fun b hb=>?_)|refine stD 1 9 ?_|refine stD 5 5 ?_|refine stM ?_ (c:=Rq r hsr)|fail)
  refine Ay (i+1) hlt Aa [5] (Af Y Y (Af Y Y (Af Y Y (Af Y Y (Af Y Y (Af Y (by rw[An Aa Aa];rfl) Aj)))))) ?_
  have ht:(p.opens.take (i+1)).map As=(p.opens.take i).map As++[As r]:=by rw[A5 hr];simp
  rw[ht];rfl
 ·repeat'(first|exact prB|refine stC ?_|refine stU (fun h=>?_) fun h=>?_|refine stN (fun b hb=>?_)|refine stD 1 9 ?_|refine stD 5 5 ?_|fail)
  have hto:p.opens.take i=p.opens:=List.take_of_length_le Aa
  rw[hto]
  refine A14 Y ?_
  refine A3 (ι:=Nat) (fun i=>i<=p.prods.length) (fun i=>[(2,.ref 4 0),(3,.ref 6 0),(32,.t (.slice .any 4 (p.prods.map Al))),(33,.t (.int .i64 ((p.prods.map Al).length:Int))),(34,.t (.int .i64 i))])
   (fun i=>[(90,.grow 4 ((p.prods.take i).map Al)),(80,.grow 3 (p.opens.map As)),(6,.cells [.t (.int .i64 p.start),.t (.int .i64 p.fin),.row 28 5 0 (p.rows.map A8).length,.row 80 3 0 (p.opens.map As).length,.row 90 4 0 ((p.prods.take i).map Al).length]),(28,.grow 5 (p.rows.map A8)),(4,.cells (Ah Yw.zero)),(2,.cells (Ah (AD p)))]) (fun i=>p.prods.length-i) 0 Ac ?_ ?_
  ·exact AE [] (Af Y Y (Af Y Y (Af Y Y (Af Y Y (Af Y Y Aj))))) Y
  rintro j hj
  by_cases hlj:j<p.prods.length
  ·have hr:p.prods[j]?=some p.prods[j]:=List.getElem?_eq_getElem hlj
   have hsr:=h5 p.prods[j] (List.getElem_mem hlj)
   generalize p.prods[j]=r at hr hsr
   repeat'(first|exact prB|refine stC ?_|refine stU (fun h=>?_) fun h=>?_|refine stN (fun b hb=>?_)|refine stD 1 9 ?_|refine stD 5 5 ?_|refine stL ?_ (c:=N9 r.seen hsr)|fail)
   refine Ay (j+1) hlj Aa [7] (Af Y Y (Af Y Y (Af Y Y (Af Y Y (Af Y (by rw[An Aa Aa];rfl) Aj))))) ?_
   have ht:(p.prods.take (j+1)).map Al=(p.prods.take j).map Al++[Al r]:=by rw[A5 hr];simp
   rw[ht];rfl
  ·repeat'(first|exact prB|refine stC ?_|refine stU (fun h=>?_) fun h=>?_|refine stN (fun b hb=>?_)|refine stD 1 9 ?_|refine stD 5 5 ?_|fail)
   have htp:p.prods.take j=p.prods:=List.take_of_length_le Aa
   refine Ba [3,2,1] Y Y ?_ (A1y ?_)
   ·rw[htp];rfl
   ·rw[htp,List.length_map,hlo,hlp];rfl
def Hc (b:Batch) (off:Int) (i:Nat) (r:Rec):Row:=⟨if off= -1 then-1 else off+i,b.pid,b.seq+i,r.key,r.value⟩
def Cl (b:Batch) (off:Int):List Row:=b.recs.mapIdx (Hc b off)
theorem Ti {b:Batch} {off:Int} {i:Nat} {r:Rec} (h:b.recs[i]?=some r):(b.recs.take (i+1)).mapIdx (Hc b off)=(b.recs.take i).mapIdx (Hc b off)++[Hc b off i r]:=by
 have hlt:=(List.getElem?_eq_some_iff.1 h).1
 rw[A5 h,List.mapIdx_append];simp;congr 1;omega
theorem Agt (b:Batch) (off:Int) (hb:A9 b=true) (h1: -1<=off) (h2:off<=2000000000):A17 141 [.agg (Ah (Au b)),.t (.int .i64 off)] [] (.t (.slice .any 5 ((Cl b off).map A8))) []:=by
 have hm:=Co hb
 have hlm:(b.recs.map AJ).length=b.recs.length:=List.length_map ..
 have hcn:((b.recs.map AJ).length:Int)=((b.recs.length:Nat):Int):=by rw[hlm]
 refine ct0 Ag Tryz.func141 Y false Y Y ?_
 repeat'(first|exact prB|refine stC ?_|refine stU (fun h=>?_) fun h=>?_|refine stN (fun b hb=>?_)|refine Dn Ag Y Y Y Y Y Y Y (l:=0) Y hcn Y Y Aa Aa ?_|fail)
 refine A3 (ι:=Nat) (fun i=>i<=b.recs.length) (fun i=>[(1,.t (.int .i64 off)),(2,.ref 4 0),(5,.row 24 5 0 (((b.recs.take i).mapIdx (Hc b off)).map A8).length),(15,.t (.int .i64 ((b.recs.map AJ).length:Int))),(16,.t (.int .i64 i))]) (fun i=>[(24,.grow 5 (((b.recs.take i).mapIdx (Hc b off)).map A8)),(4,.cells (Ah (Au b)))]) (fun i=>b.recs.length-i) 0 Ac ?_ ?_
 ·exact AE [] (Af Y Y (Af Y Y (Af Y Y (Af Y Y (Af Y Y Aj))))) Y
 rintro i hi
 by_cases hlt:i<b.recs.length
 ·have hr:b.recs[i]?=some b.recs[i]:=List.getElem?_eq_getElem hlt
  generalize b.recs[i]=r at hr
  have hw1:IntKind.i64.wrap (b.seq+i)=b.seq+i:=An Aa Aa
  have hw2:IntKind.i64.wrap (off+i)=off+i:=An Aa Aa
  repeat'(first|exact prB|refine stC ?_|refine stU (fun h=>?_) fun h=>?_|refine stN (fun b hb=>?_)|fail)
  all_goals refine Ay (i+1) hlt Aa [7,8] (Af Y Y (Af Y Y (Af Y ?_ (Af Y Y (Af Y (by rw[An Aa Aa];rfl) Aj))))) ?_
  all_goals rw[Ti hr,List.map_append,Hc]
  all_goals try rw[hw1]
  all_goals try rw[hw2]
  all_goals first|rw[if_neg h]|rw[if_pos (Classical.not_not.1 h)]
  all_goals try rfl
  all_goals try(rw[Classical.not_not.1 h];rfl)
 ·repeat'(first|exact prB|refine stC ?_|refine stU (fun h=>?_) fun h=>?_|refine stN (fun b hb=>?_)|fail)
  refine Ai Y (A1y ?_)
  have ht:b.recs.take i=b.recs:=List.take_of_length_le Aa
  rw[ht]
  simp[B5,Cl]
  try exact List.take_of_length_le Ac
theorem O8 (l:List Opn) (pid:Int) (hl:l.length<=1000000):A17 76 [.t (.slice .any 3 (l.map As)),.t (.int .i64 pid)] [] (.tuple [.t (.int .i64 (Gc (fun o=>decide (o.pid=pid)) l)),.t (.bool (l.any (fun o=>decide (o.pid=pid))))]) []:=by
 have hf: ∀o:Opn,A17 140 (.agg (Ah (As o))::Ah [.ptr [.int .i64 pid]]) [] (.t (.bool (decide (o.pid=pid)))) []:=fun o=>by
  refine ct0 Ag Tryz.func140 Y false Y Y ?_
  repeat'(first|exact prB|refine stC ?_|refine stU (fun h=>?_) fun h=>?_|refine stN (fun b hb=>?_)|fail)
  exact Ai Y (A1x _)
 have ci:=OX 140 [.ptr [.int .i64 pid]] (fun o=>decide (o.pid=pid)) l Aa hf Y
 refine ct0 Ag Tryz.func76 Y false Y Y ?_
 refine Ik ?_
 refine L4 Ag Y Y ?_
 repeat'(first|exact prB|refine stA ?_|refine stU (fun h=>?_) fun h=>?_|refine stN (fun b hb=>?_)|fail)
 refine A12 (cs:=[.int .i64 pid]) 3 6 Y Y Y Y ?_
 repeat'(first|exact prB|refine stC ?_|refine stU (fun h=>?_) fun h=>?_|refine stN (fun b hb=>?_)|refine stL ?_ (c:=ci)|fail)
 refine Ai Y (A1y ?_)
 have:=Jp (fun o:Opn=>decide (o.pid=pid)) l
 rw[Bool.eq_iff_iff.2 ⟨fun h=>this.1 (of_decide_eq_true h),fun h=>decide_eq_true (this.2 h)⟩]
theorem Aip {α:Type} {p:α->Bool} {l:List α} (h:l.any p=true): ∃(i:Nat) (x:α),l[i]?=some x/\Gc p l=(i:Int)/\l.find? p=some x:=by
 obtain⟨i,x,hx,hi,hf,_⟩:=PW h
 refine⟨i,x,hx,?_,hf⟩
 unfold SA at hi;unfold Gc
 cases he:l.findIdx? p with
 |some j=>rw[he]at hi;exact hi
 |none=>rw[List.findIdx?_eq_none_iff]at he;rw[List.any_eq_true]at h;obtain⟨x,hx,hp⟩:=h;have:=he x hx;simp[hp]at this
def A0t (l:List Batch):Nat:=(l.map (fun b=>b.recs.length)).sum
def A0s (l:List Opn):Nat:=(l.map (fun o=>A0t o.batches)).sum
def A1f (p:Part) (b:Batch):Int:=p.fin+b.recs.length+8+A0s p.opens
def A0w (p:Part) (b:Batch):Option (Bs×Int):=match p.opens.find? (fun o=>decide (o.pid=b.pid))with
 |none=>none
 |some o=>if b.txn=false then some ([97,32,98,97,116,99,104,32,98,101,115,105,100,101,32,97,32,116,114,97,110,115,97,99,116,105,111,110],180)else if o.epoch≠b.epoch then some ([116,104,101,32,101,112,111,99,104,32,111,102,32,97,32,116,114,97,110,115,97,99,116,105,111,110],100)else if 8<=o.batches.length then some ([116,104,101,32,98,97,116,99,104,101,115,32,111,102,32,97,32,116,114,97,110,115,97,99,116,105,111,110],140)else none
theorem K3 {l:List Opn} {pid:Int} {o:Opn} (h:l.find? (fun o=>decide (o.pid=pid))=some o): ∃k:Nat,l[k]?=some o/\Gc (fun o=>decide (o.pid=pid)) l=(k:Int)/\l.any (fun o=>decide (o.pid=pid))=true:=by
 have hany:l.any (fun o=>decide (o.pid=pid))=true:=List.any_eq_true.2 ⟨o,List.mem_of_find?_eq_some h,(List.find?_some h:)⟩
 obtain⟨i,x,h1,h2,h3⟩:=Aip hany
 rw[h]at h3;cases h3
 exact⟨i,h1,h2,hany⟩
section
variable {P:Program} {c:Conf} {n:Nat} {ops:Array Oper} {rest:List Oper} {env:Env} {σ:St} {o:Oper} {k:Env->St->Prop} {news:List Nat}
end
def Ayr (l:List Prod) (b:Batch):List Seen:=if(BM l b.pid).epoch≠b.epoch then[]else(BM l b.pid).seen
def Azj (s:List Seen):List Seen:=s.drop (s.length-3)
def Arv (l:List Prod) (b:Batch) (base:Int):Prod:=⟨b.pid,b.epoch,DK b,Azj (Ayr l b++[⟨b.seq,b.recs.length,base⟩])⟩
def Aty (l:List Prod) (b:Batch) (base:Int):Int:=if base< -1\/base>1048576 then 2 else if Abx l b≠0 then Abx l b else if Azb l b=true then 101 else 0
def Anq (l:List Prod) (b:Batch) (base:Int):List Prod:=if Aty l b base=0 then Sy l (Arv l b base)else[]
end Go.Proofs.YtmohpcgmdheafaaGreatDoor
