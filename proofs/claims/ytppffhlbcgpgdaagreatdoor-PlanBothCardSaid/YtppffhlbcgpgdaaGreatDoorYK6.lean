/- Lemmas toward the law; each names its conditions. -/
import Derived.Test.YtppffhlbcgpgdaaGreatDoorYK5
set_option linter.all false
set_option maxRecDepth 100000
set_option maxHeartbeats 8000000
namespace Go.Proofs.YtppffhlbcgpgdaaGreatDoor
open Go.Am
attribute [local irreducible] Decidable.decide Tr A6 CG EJ
def SP (l:List Prod) (b:Batch):Bool:=EN l&&A4 b
def L8 (l:List Prod) (b:Batch):Int:=if SP l b=true then(if Gx l b=true then 0 else Md l b)else 0
def Ff (l:List Prod) (b:Batch):Bool:=SP l b&&Mw l b
def C6 (l:List Prod) (b:Batch):Int:=if SP l b=true then GJ l b else 2
theorem J0 (l:List Prod) (b:Batch) (hl:Gj l) (hb:b.rZ.length<=1000000000):A3z 184 [.t (.slice .any 4 (l.map Ar)),.agg (Af (Ak b))] [] (.tuple [.t (.int .i64 (L8 l b)),.t (.bool (Ff l b)),.t (.int .i64 (C6 l b))]) []:=by
 have c1:=Yc l hl;have c2:=Fk b hb;have c3:=Alj l b hl hb;refine yF Tryz.func184 ?_
 cases h1:EN l with
 |false=>
  rw[h1]at c1;have ho:SP l b=false:=by simp[SP,h1]
  repeat'(first|exact Au|refine yC ?_ ?_|refine⟨λh=>?_⟩|fail)
  all_goals(refine Ah Y (A3m ?_);simp[L8,Ff,C6,ho])
 |true=>
  rw[h1]at c1
  cases h2:A4 b with
  |false=>
   rw[h2]at c2;have ho:SP l b=false:=by simp[SP,h2]
   repeat'(first|exact Au|refine yC ?_ ?_|refine⟨λh=>?_⟩|fail)
   all_goals(refine Ah Y (A3m ?_);simp[L8,Ff,C6,ho])
  |true=>
   rw[h2]at c2;have ho:SP l b=true:=by simp[SP,h1,h2]
   by_cases he:GJ l b=0
   ·have ht:TC l b=.nilIface:=by simp[TC,he]
    rw[ht]at c3
    repeat'(first|exact Au|refine yC ?_ ?_|refine⟨λh=>?_⟩|refine BZ Afc ?_|fail)
    all_goals(refine Ah Y (A3m ?_);simp[L8,Ff,C6,ho,he])
   ·have ht:TC l b=Aac b.lO (GJ l b):=by simp[TC,he]
    rw[ht]at c3
    repeat'(first|exact Au|refine yC ?_ ?_|refine⟨λh=>?_⟩|refine Ab0 ?_ (c:=Ajs _ _)|fail)
    all_goals(refine Ah Y (A3m ?_);simp[L8,Ff,C6,ho])
def Iw (o:Opn):Prop:=o.gG.length<=1000000/\ ∀b∈o.gG,b.rZ.length<=1000000
def EE (o:Opn):T:=if Cp o=true then .nilIface else if 1<=o.gG.length/\o.gG.length<=8 then Co 372 [97,32,98,97,116,99,104] 2 else Co 372 [116,104,101,32,110,117,109,98,101,114,32,111,102,32,98,97,116,99,104,101,115] 2
theorem SS (o:Opn) (hs:Iw o):A3z 202 [.agg (Af (An o))] [] (.t (EE o)) []:=by
 have aQ:(o.gG.map Ak).length=o.gG.length:=Ts ..;refine yF Tryz.func202 ?_;by_cases hn:1<=o.gG.length/\o.gG.length<=8
 ·have gL:o.gG[0]?=some (o.gG[0]' Aa):=Kv _;have hf:=Oh gL;generalize o.gG[0]' Aa=b0' at gL hf;have u7:Cp o=Cu o.lO o.lT (JC o.gG) o.gG:=by simp[Cp,hn]
  rw[hf]at u7
  repeat'(first|exact Au|refine yC ?_ ?_|refine⟨λh=>?_⟩|refine HM (kc:=0) Ai Y Y Y Y Y Y Y (C8 gL) Y ?_|fail)
  all_goals try(exfalso;omega)
  refine AW (ι:=Nat×Int) (λp=>p.1<=o.gG.length/\Cp o=Cu o.lO o.lT p.2 (o.gG.drop p.1)) (λp=>[(1,.ref 2 0),(3,.t (.int .i64 p.2)),(25,.t (.slice .any 5 (o.gG.map Ak))),(26,.t (.int .i64 o.gG.length)),(27,.t (.int .i64 p.1))]) (λ_=>[(2,.cells (Af (An o)))]) (λp=>o.gG.length-p.1) (0,b0'.seq) ⟨Ac,u7⟩ ?_ ?_
  ·exact Bb [] (Ag Y Y (Ag Y Y (Ag Y Y (Ag Y (by rw[aQ]) Aa6)))) Y
  rintro⟨i,next⟩ ⟨hi,hc⟩;simp only at hi hc;by_cases aC:i<o.gG.length
  ·have hr:o.gG[i]?=some o.gG[i]:=Kv aC;have cS:=hs.2 o.gG[i] (Agz aC);generalize o.gG[i]=r at hr cS;rw[CL hr]at hc;simp only[Cu]at hc;have cm:=Fk r Aa
   cases hm:A4 r with
   |false=>
    rw[hm]at cm hc
    repeat'(first|exact Au|refine yC ?_ ?_|refine⟨λh=>?_⟩|fail)
    all_goals(refine Ah Y (A3m ?_);simp at hc;simp[EE,hc,hn,Co])
   |true=>
    rw[hm]at cm hc
    repeat'(first|exact Au|refine yC ?_ ?_|refine⟨λh=>?_⟩|refine BZ (G9 r hm) ?_|fail)
    all_goals first
     |(refine AM (i+1,E6 r) ⟨by simp;omega,?_⟩ (by simp;omega) [5] (Ag Y Y (Ag Y Y (Ag Y Y (Ag Y Y (Ag Y (by rw[A1 Aa Aa];rfl) A8))))) Y
       rw[hc];simp_all)
     |(refine Ah Y (A3m ?_)
       have cH:Cp o=false:=by rw[hc];simp_all
       simp[EE,cH,hn,Co])
  ·repeat'(first|exact Au|refine yC ?_ ?_|refine⟨λh=>?_⟩|fail)
   refine Ah Y (A3m ?_);have mP:Cp o=true:=by rw[hc,A6n Aa];rfl
   simp[EE,mP]
 ·have cH:Cp o=false:=by simp[Cp];intro h;omega
  repeat'(first|exact Au|refine yC ?_ ?_|refine⟨λh=>?_⟩|fail)
  all_goals first|(exfalso;omega)|(refine Ah Y (A3m ?_);rw[EE,cH,Ug Ac,Ug hn];rfl)
theorem Ab8 (o:Opn) (hs:Iw o) (h:Cp o=false):A3z 140 [.agg (Af (An o))] [] (.tuple [.t (.slice .any 18 []),.t (.int .i64 2)]) []:=by
 have cc:=SS o hs;refine yF Tryz.func140 ?_;by_cases hn:1<=o.gG.length/\o.gG.length<=8
 ·have ht:EE o=Co 372 [97,32,98,97,116,99,104] 2:=by simp[EE,h,hn]
  rw[ht]at cc
  repeat'(first|exact Au|refine yC ?_ ?_|refine⟨λh=>?_⟩|refine Ab0 ?_ (c:=Vi _ _)|fail)
  refine Ah Y ?_;exact As ⟨Ay,A3l _,trivial⟩
 ·have ht:EE o=Co 372 [116,104,101,32,110,117,109,98,101,114,32,111,102,32,98,97,116,99,104,101,115] 2:=by simp[EE,h,hn]
  rw[ht]at cc
  repeat'(first|exact Au|refine yC ?_ ?_|refine⟨λh=>?_⟩|refine Ab0 ?_ (c:=Vi _ _)|fail)
  refine Ah Y ?_;exact As ⟨Ay,A3l _,trivial⟩
def AU (p:Part):Prop:=p.rows.length<=1000000/\p.kI.length<=1000000/\(∀o∈p.kI,Iw o)/\Gj p.rA
def FN (p:Part) (o:Opn):Bool:=Cp o&&(H6 p.rA o.lO&&decide ((BK p.rA o.lO).lT=o.lT/\(BK p.rA o.lO).next=Gr o.gG))
def HW (p:Part):Bool:=EU p&&(!p.rows.any JX&&EN p.rA)
def BU (p:Part):Bool:=HW p&&p.kI.all (FN p)
def Qw (p:Part):Bs:=if HW p=true then(match p.kI.find? (λo=> !FN p o)with
 |some o=>if Cp o=true then[116,104,101,32,112,114,111,100,117,99,101,114,32,111,102,32,97,110,32,111,112,101,110,32,116,114,97,110,115,97,99,116,105,111,110]else[97,110,32,111,112,101,110,32,116,114,97,110,115,97,99,116,105,111,110]
 |none=>[])else[97,32,112,97,114,116]
def C4 (p:Part):T:=if BU p=true then .nilIface else Co 214 (Qw p) 2
theorem Ant {p:Part} {i:Nat} {o:Opn} (hh:HW p=true) (ho:p.kI[i]?=some o) (aI:(p.kI.take i).all (FN p)=true) (hb:FN p o=false):BU p=false/\Qw p=if Cp o=true then[116,104,101,32,112,114,111,100,117,99,101,114,32,111,102,32,97,110,32,111,112,101,110,32,116,114,97,110,115,97,99,116,105,111,110]else[97,110,32,111,112,101,110,32,116,114,97,110,115,97,99,116,105,111,110]:=by
 obtain⟨aC,he⟩:=ZH.1 ho
 have hf:p.kI.find? (λo=> !FN p o)=some o:=by
  rw[A8k];refine⟨by simp[hb],i,aC,he,λj hj=>?_⟩;have hm:p.kI[j]' Aa∈p.kI.take i:=A51.2 ⟨j,Aa,Y⟩;have:=A21.1 aI _ hm;simp[this]
 refine⟨?_,by simp[Qw,hh,hf]⟩
 have:p.kI.all (FN p)=false:=by
  cases ha:p.kI.all (FN p)with
  |false=>rfl
  |true=>have:=A21.1 ha o (Apj ho);rw[hb]at this;cases this
 simp[BU,this]
theorem Vc (p:Part) (hs:AU p):A3z 96 [.agg (Af (Ax p))] [] (.t (C4 p)) []:=by
 obtain⟨h1,h2,h3,h4⟩:=hs;have c1:=Aaf p Aa Aa;have c2:=SL 138 [] JX p.rows Aa Aig Y;have c3:=Yc p.rA h4;have aQ:(p.kI.map An).length=p.kI.length:=Ts ..;refine yF Tryz.func96 ?_
 cases hh:HW p with
 |false=>
  have ht:C4 p=Co 214 [97,32,112,97,114,116] 2:=by simp[C4,BU,hh,Qw]
  cases hr:EU p with
  |false=>
   simp only[hr,A0s,ZF]at c1
   repeat'(first|exact Au|refine yC ?_ ?_|refine⟨λh=>?_⟩|refine B5 12 21 ?_|fail)
   all_goals(refine Ah Y (A3m ?_);rw[ht];rfl)
  |true=>
   simp only[hr,Xs]at c1
   cases hw:p.rows.any JX with
   |true=>
    rw[hw]at c2
    repeat'(first|exact Au|refine yC ?_ ?_|refine⟨λh=>?_⟩|refine B5 12 21 ?_|fail)
    all_goals(refine Ah Y (A3m ?_);rw[ht];rfl)
   |false=>
    rw[hw]at c2;have hm:EN p.rA=false:=by simpa[HW,hr,hw]using hh
    rw[hm]at c3
    repeat'(first|exact Au|refine yC ?_ ?_|refine⟨λh=>?_⟩|refine B5 12 21 ?_|fail)
    all_goals(refine Ah Y (A3m ?_);rw[ht];rfl)
 |true=>
  have u0:=hh;simp only[HW,Qp,A5y]at u0;obtain⟨hr,hw,hm⟩:=u0;simp only[hr,Xs]at c1;rw[hw]at c2;rw[hm]at c3
  repeat'(first|exact Au|refine yC ?_ ?_|refine⟨λh=>?_⟩|refine B5 12 21 ?_|fail)
  refine AW (ι:=Nat) (λi=>i<=p.kI.length/\(p.kI.take i).all (FN p)=true) (λi=>[(1,.ref 2 0),(26,.t (.slice .any 3 (p.kI.map An))),(27,.t (.int .i64 p.kI.length)),(28,.t (.int .i64 i))]) (λ_=>[(2,.cells (Af (Ax p)))]) (λi=>p.kI.length-i) 0 Ac ?_ ?_
  ·exact Bb [] (Ag Y Y (Ag Y Y (Ag Y (by rw[aQ]) Aa6))) Y
  rintro i ⟨hi,aI⟩;by_cases aC:i<p.kI.length
  ·have hr:p.kI[i]?=some p.kI[i]:=Kv aC;have iK:=h3 p.kI[i] (Agz aC);generalize p.kI[i]=o at hr iK
   cases hc:Cp o with
   |false=>
    have ho:FN p o=false:=by simp[FN,hc]
    obtain⟨q1,q2⟩:=Ant hh hr aI ho;have ht:C4 p=Co 214 [97,110,32,111,112,101,110,32,116,114,97,110,115,97,99,116,105,111,110] 2:=by simp[C4,q1,q2,hc]
    repeat'(first|exact Au|refine yC ?_ ?_|refine⟨λh=>?_⟩|refine B5 12 21 ?_|refine BZ (Ab8 o iK hc) ?_|fail)
    all_goals(refine Ah Y (A3m ?_);rw[ht];rfl)
   |true=>
    have e7:=hc;simp only[Cp,Qp,Uj]at e7;obtain⟨⟨n1,n2⟩,PZ⟩:=e7;have hz:o.gG[o.gG.length-1]?=some (o.gG[o.gG.length-1]' Aa):=Kv _;have sD:=Me PZ _ (Apj hz);have f8:=OP hz;generalize o.gG[o.gG.length-1]' Aa=z at hz sD f8;have sI:(o.gG.map Ak).length=o.gG.length:=Ts ..;have hw':IntKind.i64.wrap (((o.gG.map Ak).length:Int)-1)=((o.gG.length-1:Nat):Int):=by rw[sI,A1 Aa Aa];omega
    have cfp:=SC p.rA o.lO h4;have lI:FN p o=(H6 p.rA o.lO&&decide ((BK p.rA o.lO).lT=o.lT/\(BK p.rA o.lO).next=E6 z)):=by simp[FN,hc,f8]
    generalize H6 p.rA o.lO=k at cfp lI;generalize BK p.rA o.lO=q at cfp lI
    have bad:FN p o=false->C4 p=Co 214 [116,104,101,32,112,114,111,100,117,99,101,114,32,111,102,32,97,110,32,111,112,101,110,32,116,114,97,110,115,97,99,116,105,111,110] 2:=λho=>by
     obtain⟨q1,q2⟩:=Ant hh hr aI ho;simp[C4,q1,q2,hc]
    cases k with
    |false=>
     have ht:=bad (by rw[lI];rfl)
     repeat'(first|exact Au|refine yC ?_ ?_|refine⟨λh=>?_⟩|refine B5 12 21 ?_|refine BZ (P5 o hc) ?_|fail)
     all_goals(refine Ah Y (A3m ?_);rw[ht];rfl)
    |true=>
     repeat'(first|exact Au|refine yC ?_ ?_|refine⟨λh=>?_⟩|refine B5 12 21 ?_|refine BZ (P5 o hc) ?_|refine BZ (G9 z sD) ?_|refine Mo (G9 z sD) ?_|fail)
     all_goals first
      |(refine AM (i+1) ⟨aC,?_⟩ Aa [4,7] (Ag Y Y (Ag Y Y (Ag Y Y (Ag Y (by rw[A1 Aa Aa];rfl) A8)))) Y
        have mP:FN p o=true:=by rw[lI];simp_all
        rw[AB hr];simp[A8i,aI,mP])
      |(refine Ah Y (A3m ?_)
        rw[bad (by rw[lI];simp_all)];rfl)
  ·repeat'(first|exact Au|refine yC ?_ ?_|refine⟨λh=>?_⟩|refine B5 12 21 ?_|fail)
   refine Ah Y (A3m ?_);rw[QQ Aa]at aI;simp[C4,BU,hh,aI]
def Tw (l:List Prod) (f t:Nat) (p:Prod):List Prod:=l.take f++p::l.drop t
theorem IY (l:List Prod) (f t:Nat) (p:Prod) (hl:Gj l) (hf:f<=l.length) (ht:t<=l.length) (hp:p.s9.length<=1000000):A3z 160 [.t (.slice .any 4 (l.map Ar)),.t (.int .i64 (f:Int)),.t (.int .i64 (t:Int)),.agg (Af (Ar p))] [] (.t (.slice .any 4 ((Tw l f t p).map Ar))) []:=by
 obtain⟨hl,cS⟩:=hl;have aQ:(l.map Ar).length=l.length:=Ts ..;have dQ:IntKind.i64.wrap (((l.map Ar).length:Int)+1)=((l.length+1:Nat):Int):=by rw[aQ,A1 Aa Aa];rfl
 refine yF Tryz.func160 ?_
 repeat'(first|exact Au|refine yC ?_ ?_|refine⟨λh=>?_⟩|refine DH Ai Y Y Y Y Y Y Y (l:=0) Y dQ Y Y Aa Aa ?_|refine HL Ai (l:=0) (h:=f) Y Y Y Y Y Y (Di Y Y) Jg Aa Aa (.inl ⟨Y,Y⟩) (show _=(l.take f).map Ar by simp[A8v]) Y ?_|fail)
 have hft:((l.take f).map Ar).length=f:=by simp;omega
 refine AW (ι:=Nat) (λi=>i<=f) (λi=>[(0,.t (.slice .any 4 (l.map Ar))),(2,.t (.int .i64 (t:Int))),(7,.ref 14 0),(9,.row 34 4 0 ((l.take i).map Ar).length),(20,.t (.slice .any 4 ((l.take f).map Ar))),(21,.t (.int .i64 (f:Int))),(22,.t (.int .i64 i))]) (λi=>[(34,.grow 4 ((l.take i).map Ar)),(14,.cells (Af (Ar p)))]) (λi=>f-i) 0 Ac ?_ ?_
 ·exact Bb [] (Ag Y Y (Ag Y Y (Ag Y Y (Ag Y Y (Ag Y Y (Ag Y (by rw[hft]) Aa6)))))) Y
 rintro i hi;by_cases aC:i<f
 ·have hr:(l.take f)[i]?=some (l[i]' Aa):=by rw[Aoy,WU aC];exact Kv _
  have gL:l[i]?=some (l[i]' Aa):=Kv _;have hs:=cS (l[i]' Aa) (Agz _);generalize l[i]' Aa=r at hr gL hs
  repeat'(first|exact Au|refine yC ?_ ?_|refine⟨λh=>?_⟩|refine BZ (Mc r hs) ?_|fail)
  refine AM (i+1) aC Aa [11] (Ag Y Y (Ag Y Y (Ag Y Y (Ag Y ?_ (Ag Y Y (Ag Y Y (Ag Y (by rw[A1 Aa Aa];rfl) A8))))))) ?_
  ·rw[AB gL];simp[CH];rfl
  ·rw[AB gL];simp only[A38,A5h,A8j];rfl
 ·have pP:i=f:=Aa;subst pP
  repeat'(first|exact Au|refine yC ?_ ?_|refine⟨λh=>?_⟩|refine BZ (Mc p hp) ?_|refine HL Ai (l:=t) (h:=(l.map Ar).length) Y Y Y Y Y Y Jg (Di Y Y) Aa Aa (.inl ⟨Y,Y⟩) (show _=(l.drop t).map Ar by rw[<-A7r,QQ Ac]) Y ?_|fail)
  have hdt:((l.drop t).map Ar).length=l.length-t:=Ac;have e0:(l.take i).map Ar++[Ar p]=((l.take i++p::(l.drop t).take 0)).map Ar:=Ac;refine AW (ι:=Nat) (λj=>j<=l.length-t) (λj=>[(9,.row 34 4 0 ((l.take i++p::(l.drop t).take j).map Ar).length),(39,.t (.slice .any 4 ((l.drop t).map Ar))),(40,.t (.int .i64 ((l.length-t:Nat):Int))),(41,.t (.int .i64 j))]) (λj=>[(34,.grow 4 ((l.take i++p::(l.drop t).take j).map Ar)),(14,.cells (Af (Ar p)))]) (λj=>l.length-t-j) 0 Ac ?_ ?_
  ·exact Bb [] (Ag Y (by rw[<-e0];rfl) (Ag Y Y (Ag Y (by rw[hdt]) Aa6))) (by rw[<-e0];rfl)
  rintro j hj;by_cases eR:j<l.length-t
  ·have hr:(l.drop t)[j]?=some (l[t+j]' Aa):=by rw[A4z];exact Kv _
   have hs:=cS (l[t+j]' Aa) (Agz _);generalize l[t+j]' Aa=r at hr hs;have e1:(l.take i++p::(l.drop t).take (j+1)).map Ar=(l.take i++p::(l.drop t).take j).map Ar++[Ar r]:=by rw[AB hr];simp
   repeat'(first|exact Au|refine yC ?_ ?_|refine⟨λh=>?_⟩|refine BZ (Mc r hs) ?_|fail)
   refine AM (j+1) eR Aa [13] (Ag Y ?_ (Ag Y Y (Ag Y Y (Ag Y (by rw[A1 Aa Aa];rfl) A8)))) ?_
   ·rw[e1];rfl
   ·rw[e1];rfl
  ·repeat'(first|exact Au|refine yC ?_ ?_|refine⟨λh=>?_⟩|fail)
   refine Ah Y (A3m ?_);have vL:(l.drop t).take j=l.drop t:=QQ (by rw[A43];omega);rw[vL];simp only[BG,Tw,A7a,A6x,Xs];simp;exact QQ Ac
def O8 (l:List Prod) (p:Prod):List Prod:=match l.findIdx? (λx=>decide (x.lO>=p.lO))with
 |some i=>if(l[i]?.map Prod.lO)=some p.lO then Tw l i (i+1) p else Tw l i i p
 |none=>Tw l l.length l.length p
theorem Ae7 (p x:Prod):A3z 281 (.agg (Af (Ar x))::Af [.ptr (Ar p)]) [] (.t (.bool (decide (x.lO>=p.lO)))) []:=by
 refine yF Tryz.func281 ?_
 repeat'(first|exact Au|refine yC ?_ ?_|refine⟨λh=>?_⟩|fail)
 exact Ah Y (A3l _)
theorem Aty (l:List Prod) (p:Prod) (hl:Gj l) (hp:p.s9.length<=1000000):A3z 231 [.t (.slice .any 4 (l.map Ar)),.agg (Af (Ar p))] [] (.t (.slice .any 4 ((O8 l p).map Ar))) []:=by
 have aO:=hl.1;have cf:=Kx 281 [.ptr (Ar p)] (λx=>decide (x.lO>=p.lO)) l Aa (Ae7 p) Y;refine yF Tryz.func231 ?_;refine HA ?_;refine Jx Ai Y Y ?_
 repeat'(first|exact Au|refine yA ?_ ?_|refine⟨λh=>?_⟩|fail)
 refine A3q (cs:=Ar p) 3 6 Y Y Y Y ?_
 cases hh:l.any (λx=>decide (x.lO>=p.lO))with
 |false=>
  rw[hh,S9 hh]at cf
  have hs:O8 l p=Tw l l.length l.length p:=by
   have:l.findIdx? (λx=>decide (x.lO>=p.lO))=none:=by rw[A5e];intro x hx;have:=A4u.1 hh x hx;simpa using this
   simp[O8,this]
  have cp:=IY l l.length l.length p hl (WW _) (WW _) hp
  repeat'(first|exact Au|refine yC ?_ ?_|refine⟨λh=>?_⟩|refine B5 2 9 ?_|fail)
  exact Ah Y (A3m (by rw[hs]))
 |true=>
  obtain⟨i,x,hx,hi,_,_⟩:=LZ hh;rw[hh,hi]at cf;have aC:=(ZH.1 hx).1
  have jI:l.findIdx? (λx=>decide (x.lO>=p.lO))=some i:=by
   unfold Q5 at hi
   cases hf:l.findIdx? (λx=>decide (x.lO>=p.lO))with
   |none=>rw[hf]at hi;simp at hi;omega
   |some j=>rw[hf]at hi;simp at hi;exact A5s some Aa
  have cp0:=IY l i i p hl Aa Aa hp;have cp1:=IY l i (i+1) p hl Aa Aa hp;have hw:IntKind.i64.wrap ((i:Int)+1)=((i+1:Nat):Int):=by rw[A1 Aa Aa];rfl
  repeat'(first|exact Au|refine yC ?_ ?_|refine⟨λh=>?_⟩|refine B5 2 9 ?_|refine BZ (hw▸cp1) ?_|fail)
  all_goals(refine Ah Y (A3m ?_);simp_all[O8])
theorem K3 (l:List Row) (hl:l.length<=1000000):A3z 152 [.t (.slice .any 5 (l.map Aw))] [] (.row 14 5 0 (l.map Aw).length) [(14,.grow 5 (l.map Aw))]:=by
 refine yG Tryz.func152 ?_;have aQ:(l.map Aw).length=l.length:=Ts ..
 repeat'(first|exact Au|refine PA (λb hb=>?_)|refine yB ?_ ?_|refine⟨λh=>?_⟩|refine KO Ai Y Y Y Y Y Y Y Y Y Y Y Y Y (by simp;omega) ?_|fail)
 ·have h0:=hb h;rw[h0];refine A3n 2 7 5 Y Y ?_;refine B3 ?_;exact A0 [] Y Y Y (A3l _)
 ·refine B3 ?_;exact A0 [] Y Y Y (A3l _)
theorem Ja (b:Batch) (h:b.rZ.length<=1000000):A3z 187 [.agg (Af (Ak b))] [] (.agg (Af (Ak b))) []:=by
 refine yF Tryz.func187 ?_
 repeat'(first|exact Au|refine yC ?_ ?_|refine⟨λh=>?_⟩|refine BZ (Ot b.rZ h) ?_|fail)
 exact Ah Y (A3l _)
theorem Ki (o:Opn) (hs:Iw o):A3z 143 [.agg (Af (An o))] [] (.agg (Af (An o))) []:=by
 have aQ:(o.gG.map Ak).length=o.gG.length:=Ts ..;have cC:=hs.1;refine yF Tryz.func143 ?_
 repeat'(first|exact Au|refine yC ?_ ?_|refine⟨λh=>?_⟩|refine B5 6 5 ?_|fail)
 refine A3s 2 2 40 5 Y Y Y ?_;refine AW (ι:=Nat) (λi=>i<=o.gG.length) (λi=>[(1,.ref 2 0),(2,.ref 4 0),(9,.t (.slice .any 5 (o.gG.map Ak))),(10,.t (.int .i64 ((o.gG.map Ak).length:Int))),(11,.t (.int .i64 i))]) (λi=>[(80,.grow 5 ((o.gG.take i).map Ak)),(4,.cells (Af Ajf.zero)),(2,.cells [.t (.int .i64 o.lO),.t (.int .i64 o.lT),.row 80 5 0 ((o.gG.take i).map Ak).length])]) (λi=>o.gG.length-i) 0 Ac ?_ ?_
 ·exact Bb [] Aa6 Y
 rintro i hi;by_cases aC:i<o.gG.length
 ·have hr:o.gG[i]?=some o.gG[i]:=Kv aC;have cA:=hs.2 o.gG[i] (Agz aC);generalize o.gG[i]=r at hr cA
  repeat'(first|exact Au|refine yC ?_ ?_|refine⟨λh=>?_⟩|refine B5 6 5 ?_|refine Vr (id:=6) Ai [0,6] 5 Ab Y Y Y Y Y Y (by rintro ch e s ⟨hx,_⟩;rcases hx with hx|hx<;>cases hx) ?_|refine Mo (Ja r cA) ?_|fail)
  refine AM (i+1) aC Aa [5] (Ag Y Y (Ag Y Y (Ag Y Y (Ag Y Y (Ag Y (by rw[A1 Aa Aa];rfl) A8))))) ?_;have ht:(o.gG.take (i+1)).map Ak=(o.gG.take i).map Ak++[Ak r]:=by rw[AB hr];simp
  rw[ht];rfl
 ·repeat'(first|exact Au|refine yC ?_ ?_|refine⟨λh=>?_⟩|refine B5 6 5 ?_|fail)
  refine Ah Y (A3m ?_);rw[QQ Aa];simp[BG,F6,An,Af];try exact QQ Ac
def NH (p:Part):St:=[(90,.grow 4 (p.rA.map Ar)),(80,.grow 3 (p.kI.map An)),(28,.grow 5 (p.rows.map Aw))]
theorem Aa0 (p:Part) (hs:AU p):A3z 103 [.agg (Af (Ax p))] [] (.agg [.t (.int .i64 p.vR),.t (.int .i64 p.fin),.row 28 5 0 p.rows.length,.row 80 3 0 p.kI.length,.row 90 4 0 p.rA.length]) (NH p):=by
 obtain⟨h1,h2,h3,h4,h5⟩:=hs;have eT:(p.kI.map An).length=p.kI.length:=Ts ..;have pE:(p.rA.map Ar).length=p.rA.length:=Ts ..;refine yG Tryz.func103 ?_
 repeat'(first|exact Au|refine yC ?_ ?_|refine⟨λh=>?_⟩|refine B5 1 9 ?_|refine B5 5 5 ?_|refine Uq Y Y Y Y Y (K3 p.rows h1) Y Y Y Y ?_|fail)
 refine A3s 6 4 45 4 Y Y Y ?_;refine A3s 6 3 40 3 Y Y Y ?_
 refine AW (ι:=Nat) (λi=>i<=p.kI.length) (λi=>[(1,.ref 2 0),(2,.ref 4 0),(3,.ref 6 0),(17,.t (.slice .any 3 (p.kI.map An))),(18,.t (.int .i64 ((p.kI.map An).length:Int))),(19,.t (.int .i64 i))])
  (λi=>[(80,.grow 3 ((p.kI.take i).map An)),(90,.grow 4 []),(6,.cells [.t (.int .i64 p.vR),.t (.int .i64 p.fin),.row 28 5 0 (p.rows.map Aw).length,.row 80 3 0 ((p.kI.take i).map An).length,.row 90 4 0 0]),(28,.grow 5 (p.rows.map Aw)),(4,.cells (Af Mi.zero)),(2,.cells (Af (Ax p)))]) (λi=>p.kI.length-i) 0 Ac ?_ ?_
 ·exact Bb [] Aa6 Y
 rintro i hi;by_cases aC:i<p.kI.length
 ·have hr:p.kI[i]?=some p.kI[i]:=Kv aC;have cA:=h3 p.kI[i] (Agz aC);generalize p.kI[i]=r at hr cA
  repeat'(first|exact Au|refine yC ?_ ?_|refine⟨λh=>?_⟩|refine B5 1 9 ?_|refine B5 5 5 ?_|refine Mo (Ki r cA) ?_|fail)
  refine AM (i+1) aC Aa [5] (Ag Y Y (Ag Y Y (Ag Y Y (Ag Y Y (Ag Y Y (Ag Y (by rw[A1 Aa Aa];rfl) A8)))))) ?_;have ht:(p.kI.take (i+1)).map An=(p.kI.take i).map An++[An r]:=by rw[AB hr];simp
  rw[ht];rfl
 ·repeat'(first|exact Au|refine yC ?_ ?_|refine⟨λh=>?_⟩|refine B5 1 9 ?_|refine B5 5 5 ?_|fail)
  have rE:p.kI.take i=p.kI:=QQ Aa;rw[rE];refine A3t Y ?_
  refine AW (ι:=Nat) (λi=>i<=p.rA.length) (λi=>[(2,.ref 4 0),(3,.ref 6 0),(32,.t (.slice .any 4 (p.rA.map Ar))),(33,.t (.int .i64 ((p.rA.map Ar).length:Int))),(34,.t (.int .i64 i))])
   (λi=>[(90,.grow 4 ((p.rA.take i).map Ar)),(80,.grow 3 (p.kI.map An)),(6,.cells [.t (.int .i64 p.vR),.t (.int .i64 p.fin),.row 28 5 0 (p.rows.map Aw).length,.row 80 3 0 (p.kI.map An).length,.row 90 4 0 ((p.rA.take i).map Ar).length]),(28,.grow 5 (p.rows.map Aw)),(4,.cells (Af Mi.zero)),(2,.cells (Af (Ax p)))]) (λi=>p.rA.length-i) 0 Ac ?_ ?_
  ·exact Bb [] Aa6 Y
  rintro j hj;by_cases eR:j<p.rA.length
  ·have hr:p.rA[j]?=some p.rA[j]:=Kv eR;have cA:=h5 p.rA[j] (Agz eR);generalize p.rA[j]=r at hr cA
   repeat'(first|exact Au|refine yC ?_ ?_|refine⟨λh=>?_⟩|refine B5 1 9 ?_|refine B5 5 5 ?_|refine BZ (HZ r.s9 cA) ?_|fail)
   refine AM (j+1) eR Aa [7] (Ag Y Y (Ag Y Y (Ag Y Y (Ag Y Y (Ag Y (by rw[A1 Aa Aa];rfl) A8))))) ?_;have ht:(p.rA.take (j+1)).map Ar=(p.rA.take j).map Ar++[Ar r]:=by rw[AB hr];simp
   rw[ht];rfl
  ·repeat'(first|exact Au|refine yC ?_ ?_|refine⟨λh=>?_⟩|refine B5 1 9 ?_|refine B5 5 5 ?_|fail)
   have mW:p.rA.take j=p.rA:=QQ Aa;refine A0 [3,2,1] Y Y ?_ (A3m ?_)
   ·rw[mW];rfl
   ·rw[mW,Ts,eT,pE];rfl
def IX (b:Batch) (off:Int) (i:Nat) (r:Rec):Row:=⟨if off= -1 then-1 else off+i,b.lO,b.seq+i,r.key,r.value⟩
def CA (b:Batch) (off:Int):List Row:=b.rZ.mapIdx (IX b off)
theorem Afh {b:Batch} {off:Int} {i:Nat} {r:Rec} (h:b.rZ[i]?=some r):(b.rZ.take (i+1)).mapIdx (IX b off)=(b.rZ.take i).mapIdx (IX b off)++[IX b off i r]:=by
 have aC:=(ZH.1 h).1;rw[AB h,List.mapIdx_append];simp;congr 1;omega
theorem Xq (b:Batch) (off:Int) (hb:A4 b=true) (h1: -1<=off) (h2:off<=2000000000):A3z 156 [.agg (Af (Ak b)),.t (.int .i64 off)] [] (.t (.slice .any 5 ((CA b off).map Aw))) []:=by
 have hm:=BV hb;have aQ:(b.rZ.map AX).length=b.rZ.length:=Ts ..;have dQ:((b.rZ.map AX).length:Int)=((b.rZ.length:Nat):Int):=by rw[aQ]
 refine yF Tryz.func156 ?_
 repeat'(first|exact Au|refine yC ?_ ?_|refine⟨λh=>?_⟩|refine DH Ai Y Y Y Y Y Y Y (l:=0) Y dQ Y Y Aa Aa ?_|fail)
 refine AW (ι:=Nat) (λi=>i<=b.rZ.length) (λi=>[(1,.t (.int .i64 off)),(2,.ref 4 0),(5,.row 24 5 0 (((b.rZ.take i).mapIdx (IX b off)).map Aw).length),(15,.t (.int .i64 ((b.rZ.map AX).length:Int))),(16,.t (.int .i64 i))]) (λi=>[(24,.grow 5 (((b.rZ.take i).mapIdx (IX b off)).map Aw)),(4,.cells (Af (Ak b)))]) (λi=>b.rZ.length-i) 0 Ac ?_ ?_
 ·exact Bb [] Aa6 Y
 rintro i hi;by_cases aC:i<b.rZ.length
 ·have hr:b.rZ[i]?=some b.rZ[i]:=Kv aC;generalize b.rZ[i]=r at hr;have dD:IntKind.i64.wrap (b.seq+i)=b.seq+i:=A1 Aa Aa;have dZ:IntKind.i64.wrap (off+i)=off+i:=A1 Aa Aa
  repeat'(first|exact Au|refine yC ?_ ?_|refine⟨λh=>?_⟩|fail)
  all_goals refine AM (i+1) aC Aa [7,8] (Ag Y Y (Ag Y Y (Ag Y ?_ (Ag Y Y (Ag Y (by rw[A1 Aa Aa];rfl) A8))))) ?_
  all_goals rw[Afh hr,A38,IX]
  all_goals try rw[dD]
  all_goals try rw[dZ]
  all_goals first|rw[Ug h]|rw[WU (A34.1 h)]
  all_goals try rfl
  all_goals try(rw[A34.1 h];rfl)
 ·repeat'(first|exact Au|refine yC ?_ ?_|refine⟨λh=>?_⟩|fail)
  refine Ah Y (A3m ?_);have ht:b.rZ.take i=b.rZ:=QQ Aa;rw[ht];simp[BG,CA];try exact QQ Ac
theorem Io (l:List Opn) (lO:Int) (hl:l.length<=1000000):A3z 104 [.t (.slice .any 3 (l.map An)),.t (.int .i64 lO)] [] (.tuple [.t (.int .i64 (Fx (λo=>decide (o.lO=lO)) l)),.t (.bool (l.any (λo=>decide (o.lO=lO))))]) []:=by
 have hf: ∀o:Opn,A3z 155 (.agg (Af (An o))::Af [.ptr [.int .i64 lO]]) [] (.t (.bool (decide (o.lO=lO)))) []:=λo=>by
  refine yF Tryz.func155 ?_
  repeat'(first|exact Au|refine yC ?_ ?_|refine⟨λh=>?_⟩|fail)
  exact Ah Y (A3l _)
 have ci:=PW 155 [.ptr [.int .i64 lO]] (λo=>decide (o.lO=lO)) l Aa hf Y;refine yF Tryz.func104 ?_;refine HA ?_;refine Jx Ai Y Y ?_
 repeat'(first|exact Au|refine yA ?_ ?_|refine⟨λh=>?_⟩|fail)
 refine A3q (cs:=[.int .i64 lO]) 3 6 Y Y Y Y ?_
 repeat'(first|exact Au|refine yC ?_ ?_|refine⟨λh=>?_⟩|fail)
 refine Ah Y (A3m ?_);have:=Kt (λo:Opn=>decide (o.lO=lO)) l;rw[A5f.2 ⟨λh=>this.1 (A5c h),λh=>A32 (this.2 h)⟩]
theorem YE {α:Type} {p:α->Bool} {l:List α} (h:l.any p=true): ∃(i:Nat) (x:α),l[i]?=some x/\Fx p l=(i:Int)/\l.find? p=some x:=by
 obtain⟨i,x,hx,hi,hf,_⟩:=LZ h;refine⟨i,x,hx,?_,hf⟩;unfold Q5 at hi;unfold Fx
 cases he:l.findIdx? p with
 |some j=>rw[he]at hi;exact hi
 |none=>rw[A5e]at he;rw[A6s]at h;obtain⟨x,hx,hp⟩:=h;have:=he x hx;simp[hp]at this
def Tq (l:List Batch):Nat:=(l.map (λb=>b.rZ.length)).sum
def Tp (l:List Opn):Nat:=(l.map (λo=>Tq o.gG)).sum
theorem ZE {α:Type} {f:α->Nat} {c:Nat}: ∀{l:List α},(∀x∈l,f x<=c)->(l.map f).sum<=c*l.length
 |[],_=>Ac
 |x::r,h=>by
  have h1:=h x (List.mem_cons_self ..);have h2:=ZE (l:=r) λy hy=>h y (A57 _ hy);simp only[A5h,List.sum_cons,A2z,Nat.mul_add,A62];omega
theorem Adb {o:Opn} (hs:Iw o) (j:Nat):Tq (o.gG.take j)<=1000000000000:=by
 have h1:=ZE (f:=λb:Batch=>b.rZ.length) (c:=1000000) (l:=o.gG.take j) λb hb=>hs.2 b (A3c hb);have h2:(o.gG.take j).length<=o.gG.length:=by rw[A2i];omega
 have h3:=hs.1;unfold Tq;omega
theorem Apa {l:List Opn} (hl:l.length<=1000000) (hs: ∀o∈l,Iw o) (j:Nat):Tp (l.take j)<=1000000000000000000:=by
 have h1:=ZE (f:=λo:Opn=>Tq o.gG) (c:=1000000000000) (l:=l.take j) λo ho=>by
  have:=Adb (hs o (A3c ho)) o.gG.length
  rwa[A5o]at this
 have h2:(l.take j).length<=l.length:=by rw[A2i];omega
 unfold Tp;omega
theorem Aey {l:List Batch} {i:Nat} {b:Batch} (h:l[i]?=some b):Tq (l.take (i+1))=Tq (l.take i)+b.rZ.length:=by
 rw[AB h];simp[Tq]
theorem Aex {l:List Opn} {i:Nat} {o:Opn} (h:l[i]?=some o):Tp (l.take (i+1))=Tp (l.take i)+Tq o.gG:=by
 rw[AB h];simp[Tp]
def Amz (p:Part) (b:Batch):Int:=p.fin+b.rZ.length+8+Tp p.kI
def KI (p:Part) (b:Batch):Option (Bs×Int):=match p.kI.find? (λo=>decide (o.lO=b.lO))with
 |none=>none
 |some o=>if b.vV=false then some ([97,32,98,97,116,99,104,32,98,101,115,105,100,101,32,97,32,116,114,97,110,115,97,99,116,105,111,110],180)else if o.lT≠b.lT then some ([116,104,101,32,101,112,111,99,104,32,111,102,32,97,32,116,114,97,110,115,97,99,116,105,111,110],100)else if 8<=o.gG.length then some ([116,104,101,32,98,97,116,99,104,101,115,32,111,102,32,97,32,116,114,97,110,115,97,99,116,105,111,110],140)else none
def HD (p:Part) (b:Batch):T:=match KI p b with
 |some (s,n)=>Co 214 s n
 |none=>if Amz p b>1048576 then Co 214 [116,104,101,32,101,110,100] 102 else .nilIface
theorem JY (p:Part) (b:Batch) (hs:AU p) (hf: -1000000000<=p.fin/\p.fin<=1000000000) (hb:b.rZ.length<=1000000):A3z 185 [.agg (Af (Ax p)),.agg (Af (Ak b))] [] (.t (HD p b)) []:=by
 obtain⟨cC,eD,d6,hs4⟩:=hs;have eT:(p.kI.map An).length=p.kI.length:=Ts ..;have oB:(b.rZ.map AX).length=b.rZ.length:=Ts ..;have ci:=Io p.kI b.lO eD;refine yF Tryz.func185 ?_
 have bZ:(p.kI.any (λo=>decide (o.lO=b.lO))=false/\p.kI.find? (λo=>decide (o.lO=b.lO))=none)\/ ∃(i:Nat) (o:Opn),p.kI.any (λo=>decide (o.lO=b.lO))=true/\p.kI[i]?=some o/\Fx (λo=>decide (o.lO=b.lO)) p.kI=(i:Int)/\p.kI.find? (λo=>decide (o.lO=b.lO))=some o:=by
  cases hh:p.kI.any (λo=>decide (o.lO=b.lO))with
  |false=>exact .inl ⟨Y,by rw[A5i];intro x hx;simpa using A4u.1 hh x hx⟩
  |true=>obtain⟨i,x,h1,h2,h3⟩:=YE hh;exact .inr ⟨i,x,Y,h1,h2,h3⟩
 have dO:IntKind.i64.wrap (IntKind.i64.wrap (p.fin+((b.rZ.map AX).length:Int))+8)=p.fin+b.rZ.length+8:=by
  rw[oB,A1 (n:=p.fin+b.rZ.length) Aa Aa,A1 Aa Aa]
 generalize Fx (λo:Opn=>decide (o.lO=b.lO)) p.kI=k at ci bZ;have uX:Amz p b=p.fin+b.rZ.length+8+(Tp (p.kI.take p.kI.length):Int):=by rw[A5o];rfl
 repeat'(first|exact Au|refine Atn (ι:=Unit) (a:=.seq _ (.seq _ (.cond (.tmp 21) _ _))) (λ_=>KI p b=none) (λ_=>[(2,.ref 4 0),(3,.ref 6 0)]) (λ_=>[(6,.cells (Af (Ak b))),(4,.cells (Af (Ax p)))]) ?_ ?_|refine yC ?_ ?_|refine⟨λh=>?_⟩|fail)
 ·rcases bZ with⟨h1,_⟩|⟨i,o,_,hx,rfl,vK⟩
  ·exfalso;simp_all
  have f8:(o.gG.map Ak).length=o.gG.length:=Ts ..
  repeat'(first|exact Au|refine yC ?_ ?_|refine⟨λh=>?_⟩|fail)
  ·refine Ah Y (A3m ?_);have:b.vV=false:=by simp_all
   simp[HD,KI,vK,this];rfl
  ·refine Ah Y (A3m ?_);simp_all[HD,KI];rfl
  ·refine Ah Y (A3m ?_);have h8:8<=o.gG.length:=Aa
   simp_all[HD,KI];rfl
  ·refine⟨(),?_,Bb [7] Aa6 Y⟩;have h8: ¬8<=o.gG.length:=Aa
   simp_all[KI]
 ·refine⟨(),?_,Bb [] Aa6 Y⟩;rcases bZ with⟨_,h1⟩|⟨i,o,h1,_⟩
  ·simp[KI,h1]
  ·exfalso;simp_all
 ·rintro _ cH
  repeat'(first|exact Au|refine yC ?_ ?_|refine⟨λh=>?_⟩|fail)
  refine AW (ι:=Nat) (λi=>i<=p.kI.length) (λi=>[(8,.t (.int .i64 (p.fin+b.rZ.length+8+(Tp (p.kI.take i):Int)))),(59,.t (.slice .any 3 (p.kI.map An))),(60,.t (.int .i64 p.kI.length)),(61,.t (.int .i64 i))]) (λ_=>[]) (λi=>p.kI.length-i) 0 Ac ?_ ?_
  ·exact Bb [2,3] (Ag Y (by rw[dO];simp[Tp];rfl) (Ag Y Y (Ag Y (by rw[eT];rfl) Aa6))) Y
  rintro i hi;have hsi:=Apa eD d6 i;by_cases aC:i<p.kI.length
  ·have hr:p.kI[i]?=some p.kI[i]:=Kv aC;have iK:=d6 p.kI[i] (Agz aC);generalize p.kI[i]=o at hr iK;have kV:=iK.1;have f8:(o.gG.map Ak).length=o.gG.length:=Ts ..
   repeat'(first|exact Au|refine yC ?_ ?_|refine⟨λh=>?_⟩|fail)
   refine AW (ι:=Nat) (λj=>j<=o.gG.length) (λj=>[(8,.t (.int .i64 (p.fin+b.rZ.length+8+(Tp (p.kI.take i):Int)+(Tq (o.gG.take j):Int)))),(59,.t (.slice .any 3 (p.kI.map An))),(60,.t (.int .i64 p.kI.length)),(61,.t (.int .i64 i)),(66,.t (.slice .any 5 (o.gG.map Ak))),(67,.t (.int .i64 o.gG.length)),(68,.t (.int .i64 j))]) (λ_=>[]) (λj=>o.gG.length-j) 0 Ac ?_ ?_
   ·exact Bb [10] (Ag Y (by simp[Tq];rfl) (Ag Y Y (Ag Y Y (Ag Y Y (Ag Y Y (Ag Y (by rw[f8];rfl) Aa6)))))) Y
   rintro j hj;have hsj:=Adb iK j;by_cases eR:j<o.gG.length
   ·have uN:o.gG[j]?=some o.gG[j]:=Kv eR;have hbj:=iK.2 o.gG[j] (Agz eR);generalize o.gG[j]=c at uN hbj;have gC:(c.rZ.map AX).length=c.rZ.length:=Ts ..
    repeat'(first|exact Au|refine yC ?_ ?_|refine⟨λh=>?_⟩|fail)
    refine AM (j+1) eR Aa [12] (Ag Y ?_ (Ag Y Y (Ag Y Y (Ag Y Y (Ag Y Y (Ag Y Y (Ag Y (by rw[A1 Aa Aa];rfl) A8))))))) Y;rw[Aey uN,gC,A1 Aa Aa,A8l,<-A7s];try rfl
   ·repeat'(first|exact Au|refine yC ?_ ?_|refine⟨λh=>?_⟩|fail)
    have hje:o.gG.take j=o.gG:=QQ Aa;refine AM (i+1) aC Aa [] (Ag Y ?_ (Ag Y Y (Ag Y Y (Ag Y (by rw[A1 Aa Aa];rfl) A8)))) Y;rw[hje,Aex hr,A8l,<-A7s];try rfl
  ·have hie:i=p.kI.length:=Aa;subst hie
   repeat'(first|exact Au|refine yC ?_ ?_|refine⟨λh=>?_⟩|fail)
   ·refine Ah Y (A3m ?_);rw[<-uX]at*;simp[HD,cH, *];rfl
   ·refine Ah Y (A3m ?_);rw[<-uX]at*;simp[HD,cH, *]
theorem Lx {l:List Opn} {lO:Int} {o:Opn} (h:l.find? (λo=>decide (o.lO=lO))=some o): ∃k:Nat,l[k]?=some o/\Fx (λo=>decide (o.lO=lO)) l=(k:Int)/\l.any (λo=>decide (o.lO=lO))=true:=by
 have bG:l.any (λo=>decide (o.lO=lO))=true:=A6s.2 ⟨o,A40 h,(A6d h:)⟩;obtain⟨i,x,h1,h2,h3⟩:=YE bG;rw[h]at h3;cases h3;exact⟨i,h1,h2,bG⟩
def Adm (s f:Int) (rs:List Row) (os:List Opn) (ps:List Prod):St:=[(3,.grow 5 (rs.map Aw)),(1,.cells [.t (.int .i64 s),.t (.int .i64 f),.row 3 5 0 (rs.map Aw).length,.t (.slice .any 3 (os.map An)),.t (.slice .any 4 (ps.map Ar))])]
theorem Amq (s f:Int) (rs:List Row) (os:List Opn) (ps:List Prod) (b:Batch) (hb:A4 b=true) (h1:0<=f) (h2:f<=1000000000) (h3:rs.length<=1000000):
  A3z 105 [.ref 1 0,.agg (Af (Ak b))] (Adm s f rs os ps) (.tuple []) (Adm s (f+b.rZ.length) (rs++CA b f) os ps):=by
 have hm:=BV hb;have aQ:(b.rZ.map AX).length=b.rZ.length:=Ts ..;have oB:(CA b f).length=b.rZ.length:=by simp[CA]
 have sG:((CA b f).map Aw).length=b.rZ.length:=by simp[CA]
 have sF:(rs.map Aw).length=rs.length:=Ts ..;have cr:=Xq b f hb Aa Aa;refine yG Tryz.func105 ?_
 repeat'(first|exact Au|refine Vr (id:=1) Ai [0] 11 Ab Y Y Y Y Y Y (by rintro ch e s ⟨hx,_⟩;rcases hx with hx|hx<;>cases hx) ?_|refine yC ?_ ?_|refine⟨λh=>?_⟩|refine B5 1 12 ?_|refine B5 2 7 ?_|fail)
 refine AE [3] Y Y ?_ (A3l _);have hw:IntKind.i64.wrap (f+((b.rZ.map AX).length:Int))=f+b.rZ.length:=by rw[aQ,A1 Aa Aa]
 rw[hw];simp only[Adm,A38];rfl
theorem A6j {P:Program} {n:Nat} {env:A2} {σ:St} {K:Exit->A2->St->Prop} {code:Code} (b off:Nat) {cs:List AV} {x y:AV} (hb:Am.look σ b=some (.cells cs)) (hc:cs[off]?=some x) (hs:Aq x y)
  (h:Tr P n code env (upd σ b (.cells (cs.set off y))) K):Tr P n code env σ K:=by
 unfold Tr at h⊢;intro F hF bP w g a hg;have hi:=hg.inv;obtain⟨aA,vs,e,q1,q2,q3,q4,q5⟩:=hi.ok b _ hb
 have dM:Inv w g (upd σ b (.cells (cs.set off y))):=by
  refine⟨λc C hC=>?_,λc=>?_,hi.inj,hi.lt,λc e7=>⟨(hi.bx c e7).1,?_⟩,hi.dis,hi.im,hi.lo,hi.sx.upd b (λL h=>by cases h)⟩
  ·rw[AK]at hC;split at hC
   ·rename_i e1;subst e1;cases hC;refine⟨aA,vs,e,q1,q2,q3,by simp[q4],λi v x' hv hx=>?_⟩;rw[A8w]at hx;split at hx
    ·rename_i e2;split at hx
     ·cases hx;rw[<-e2]at hv;exact hs _ _ _ (q5 off v _ hv hc)
     ·cases hx
    ·exact q5 i v x' hv hx
   ·exact hi.ok c C hC
  ·rw[AK];by_cases e1:b=c
   ·subst e1;simp[q1]
   ·simp only[Ug e1];exact hi.dom c
  ·rw[AK];split
   ·exact⟨_,Y⟩
   ·exact(hi.bx c e7).2
 exact h F hF bP w g a ⟨hg.env,dM,hg.defers,hg.size⟩
section
variable {P:Program} {c:Conf} {n:Nat} {ops:Array Oper} {aD:List Oper} {env:A2} {σ:St} {o:Oper} {k:A2->St->Prop} {news:List Nat}
theorem Afe {cl:Call} {so xo:Operand} {t e d s0 b0 sz:Nat} {z0:List T} {bN bO:Nat} {ez:List T} {ek:TK} {es nws:List (List T)} {m:SM} {e2:A2} (hg:o.guard=none) (ho:o.op=.call cl) (bR:cl.callee=.builtin .append) (ha:cl.args.toList=[so,xo])
  (eG:cl.argTypes.toList=[t,t]) (hd:o.dst=some d) (hs:ev env so=some (.t (.slice .full (sz+1) es))) (hx:ev env xo=some (.t (.slice m (sz+1) nws))) (ht:Am.look c.te t=some ⟨s0,b0,z0,.slice e⟩) (he:Am.look c.te e=some ⟨bN,bO,ez,ek⟩) (aN:bN=sz+1)
  (hl:Am.look σ (2*d)=none) (hp:BM n o.dst (.t (.slice .any (sz+1) (es++nws))) env=some e2)
  (bW:(es++nws).length*(bO+1)<=140737488355328) (h:CG P c n ops news aD e2 σ k):CG P c n ops news (o::aD) env σ k:=by
 refine R9 (x:=.t (.slice .any (sz+1) (es++nws))) (nb:=[]) hg ?_ Y hp h;have eY:(es.length+nws.length)*(bO+1)<=140737488355328:=by simpa using bW
 unfold Cz;rw[ho];simp only[bR,ha,eG,hs,hx,hd,hl,W9,ht,he,Jb,aN,Xs,eY]
end
theorem Aew {α:Type} (es:List α):(es.drop 0).take (es.length-0)=es:=Ac
def NW (l:List Prod) (b:Batch):List Seen:=if(BK l b.lO).lT≠b.lT then[]else(BK l b.lO).s9
def Z9 (s:List Seen):List Seen:=s.drop (s.length-3)
theorem Anh {α:Type} {es es':List α} (m:Nat) (h:es.drop m=es'):(es.drop m).take (es.length-m)=es':=by
 rw[<-h];exact QQ Ac
theorem Aov (s:List Seen) (es:List (List T)) (h:es=s.map AR):es.drop (es.length-3)=(Z9 s).map AR:=by
 subst h;simp[Z9,A7r]
def Gh (l:List Prod) (b:Batch) (s6:Int):Prod:=⟨b.lO,b.lT,E6 b,Z9 (NW l b++[⟨b.seq,b.rZ.length,s6⟩])⟩
def HB (l:List Prod) (b:Batch) (s6:Int):Int:=if s6< -1\/s6>1048576 then 2 else if C6 l b≠0 then C6 l b else if Ff l b=true then 101 else 0
def G2 (l:List Prod) (b:Batch) (s6:Int):List Prod:=if HB l b s6=0 then O8 l (Gh l b s6)else[]
theorem YF {l:List Prod} (hl:Gj l) (lO:Int):(BK l lO).s9.length<=1000000:=by
 unfold BK
 cases h:l.find? (λp=>decide (p.lO=lO))with
 |none=>simp[EB]
 |some q=>exact hl.2 q (A40 h)
theorem Vz (l:List Prod) (b:Batch) (s6:Int) (hl:Gj l) (hb:b.rZ.length<=1000000):
  A3z 188 [.t (.slice .any 4 (l.map Ar)),.agg (Af (Ak b)),.t (.int .i64 s6)] [] (.tuple [.t (.slice .any 4 ((G2 l b s6).map Ar)),.t (.int .i64 (HB l b s6))]) []:=by
 have ck:=J0 l b hl Aa;have cf:=SC l b.lO hl;have sM:(BK l b.lO).s9.length<=1000000:=YF hl b.lO
 have rB: ∀es:List (List T),es.length<=2000000->Ak7 0 (IntKind.i64.wrap ((es.length:Int)-3))=((es.length-3:Nat):Int):=λes h=>by
  rw[A1 Aa Aa];unfold Ak7;split<;>omega
 have dR:(Gh l b s6).s9.length<=1000000:=by simp[Gh,Z9];omega
 have cs:=Aty l (Gh l b s6) hl dR
 have sE:C6 l b=0->A4 b=true:=λh=>by
  unfold C6 at h;split at h
  ·rename_i h1;simp only[SP,Qp]at h1;exact h1.2
  ·cases h
 have qP:(BK l b.lO).lT≠b.lT->NW l b=[]:=λh=>by simp[NW,h]
 have g9:(BK l b.lO).lT=b.lT->NW l b=(BK l b.lO).s9:=λh=>by simp[NW,h]
 have bad: ∀e,e≠0->HB l b s6=e->Aq (.tuple [.t (.slice .nil 0 []),.t (.int .i64 e)]) (.tuple [.t (.slice .any 4 ((G2 l b s6).map Ar)),.t (.int .i64 (HB l b s6))]):=λe h1 h2=>by
  subst h2;rw[show G2 l b s6=[]by simp[G2,h1]];exact As ⟨Ay,A3l _,trivial⟩
 have good:HB l b s6=0->Aq (.tuple [.t (.slice .any 4 ((O8 l (Gh l b s6)).map Ar)),.t (.int .i64 0)]) (.tuple [.t (.slice .any 4 ((G2 l b s6).map Ar)),.t (.int .i64 (HB l b s6))]):=λh=>by
  simp only[G2,h,Xs];exact A3l _
 have e1:s6< -1\/s6>1048576->HB l b s6=2:=λh=>by simp[HB,h]
 have e2: ¬(s6< -1\/s6>1048576)->C6 l b≠0->HB l b s6=C6 l b:=λh h'=>by simp only[HB,Ug h,WU h']
 have e3: ¬(s6< -1\/s6>1048576)->C6 l b=0->Ff l b=true->HB l b s6=101:=λh h' h2=>by simp only[HB,Ug h,h2,Xs];simp[h']
 have e4: ¬(s6< -1\/s6>1048576)->C6 l b=0-> ¬Ff l b=true->HB l b s6=0:=λh h' h2=>by simp only[HB,Ug h,Ug h2];simp[h']
 refine yF Tryz.func188 ?_
 repeat'(first|exact Au|refine A6j 22 3 (x:=.t (.slice .nil 0 [])) (y:=.t (.slice .any 3 [])) Y Y Ay ?_|refine yC ?_ ?_|refine⟨λh=>?_⟩|refine B5 12 13 ?_|refine B5 14 13 ?_|refine N4 (l:=0) Y Y Y Y Y Y (Di Y Y) Jg (WW _) (A5t _) (.inr ⟨Y,Y,Di Y Y,Y⟩) (Aew _) Y ?_|refine Afe Y Y Y Y Y Y Y Y Y Y Y Y Y (by simp[CH];omega) ?_|refine TU Ai Y Y Y Y Y Y Y Y Y Y Y Y (by simp[CH];omega) ?_|refine Mo (G9 b (sE Aa)) ?_|refine N4 (es':=(Z9 (NW l b++[⟨b.seq,b.rZ.length,s6⟩])).map AR) Y Y Y Y Y Y (Di Y Y) (Di Y (rB _ (by simp[CH]<;>omega))) (WW _) (Nat.sub_le _ _) (.inr ⟨Y,Y,Di Y Y,Y⟩) (Anh _ (Aov _ _ (by first|(rw[qP Ad];simp[CH,AR]<;>rfl)|(rw[g9 Aa];simp[CH,AR]<;>rfl)))) Y ?_|refine CO Ai Y Y Y Y (cs) Y Y Y ⟨A3l _,(by refine AC ?_;exact⟨A3l _,A3l _,A3l _,A9,trivial⟩),trivial⟩ ?_|fail)
 all_goals first
  |exact Ah Y (bad _ Ae (e1 Aa))
  |exact Ah Y (bad _ Ad (e2 Aa Ad))
  |exact Ah Y (bad _ Ae (e3 Aa Aa Ad))
  |exact Ah Y (good (e4 Aa Aa Ad))
