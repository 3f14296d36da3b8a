/- Contracts and laws, joined: Na, Nb, Nc. No condition beside those that each theorem names. -/
import Derived.Test.YtmohpcgmdheafaaGreatDoorZK3
set_option linter.unusedVariables false
set_option linter.unusedSimpArgs false
set_option maxRecDepth 100000
set_option maxHeartbeats 8000000
namespace Go.Proofs.YtmohpcgmdheafaaGreatDoor
open Go.Am
attribute [local irreducible] Decidable.decide Tr A2 hSK hSW
theorem FP (n a b:Int):A17 156 [.t (.int .i64 n),.t (.int .i64 a),.t (.int .i64 b)] [] (.t (.bool (decide (a<=n/\n<=b)))) []:=by
 refine ct0 Ag Tryz.func156 Y false Y Y ?_
 repeat'(first|exact prB|refine stC ?_|refine stU (fun h=>?_) fun h=>?_|refine stN (fun b hb=>?_)|fail)
 all_goals(refine Ai Y (AP ?_);first|(first|exact bI Aa|exact bT Aa|exact bF Aa)|(simp_all;done)|(simp_all;first|rfl|omega))
theorem Adh (p:Pend):A17 158 [.agg (Ah (AB p))] [] (.t (.bool (Cc p))) []:=by
 have c1:=FP p.group 0 1
 have c2:=FP p.part 0 2
 have c3:=FP p.offset 0 1048576
 refine ct0 Ag Tryz.func158 Y false Y Y ?_
 repeat'(first|exact prB|refine stC ?_|refine stU (fun h=>?_) fun h=>?_|refine stN (fun b hb=>?_)|refine stL ?_ (c:=c1)|refine stL ?_ (c:=c2)|refine stL ?_ (c:=c3)|fail)
 all_goals(refine Ai Y (AP ?_);unfold Cc;first|(first|exact bI Aa|exact bT Aa|exact bF Aa)|(simp_all;omega))
theorem ZO (a b:Pend):A17 159 [.agg (Ah (AB a)),.agg (Ah (AB b))] [] (.t (.bool (ltP a b))) []:=by
 refine ct0 Ag Tryz.func159 Y false Y Y ?_
 repeat'(first|exact prB|refine stC ?_|refine stU (fun h=>?_) fun h=>?_|refine stN (fun b hb=>?_)|fail)
 all_goals(refine Ai Y (AP ?_);unfold ltP;first|(first|exact bI Aa|exact bT Aa|exact bF Aa)|(simp_all;omega))
theorem Aex (c:Coord):A17 160 [.agg (Ah (A4 c))] [] (.t (.bool (decide (c.state=2\/c.state=3\/c.state=4)))) []:=by
 refine ct0 Ag Tryz.func160 Y false Y Y ?_
 repeat'(first|exact prB|refine stC ?_|refine stU (fun h=>?_) fun h=>?_|refine stN (fun b hb=>?_)|fail)
 all_goals(refine Ai Y (AP ?_);first|(first|exact bI Aa|exact bT Aa|exact bF Aa)|(simp_all;done)|(simp_all;first|rfl|omega))
theorem Ad6 (c:Coord):A17 228 [.agg (Ah (A4 c))] [] (.t (.bool (decide (c.state=1\/c.state=5\/c.state=6)))) []:=by
 refine ct0 Ag Tryz.func228 Y false Y Y ?_
 repeat'(first|exact prB|refine stC ?_|refine stU (fun h=>?_) fun h=>?_|refine stN (fun b hb=>?_)|fail)
 all_goals(refine Ai Y (AP ?_);first|(first|exact bI Aa|exact bT Aa|exact bF Aa)|(simp_all;done)|(simp_all;first|rfl|omega))
def L5:Int->List Int->Bool
 |_,[]=>true
 |m,a::r=>decide (m<a)&&(decide (a<3)&&L5 a r)
theorem Wp: ∀(l:List Int) (m:Int),-1<=m->L5 m l=(DX (m::l)&&l.all CJ)
 |[],_,_=>by simp[L5,DX]
 |a::r,m,hm=>by
  by_cases h:m<a
  ·simp only[L5,DX,List.all_cons,h,decide_true,Bool.true_and,Wp r a Aa]
   by_cases h3:a<3
   ·have:CJ a=true:=by simp[CJ];omega
    simp[h3,this]
   ·have:CJ a=false:=by simp[CJ];omega
    simp[h3,this]
  ·simp[L5,DX,h]
theorem Wn (l:List Int):L5 (-1) l=BR l:=by
 rw[Wp l (-1) Aa,BR]
 cases l with
 |nil=>rfl
 |cons a r=>
  simp only[DX,List.all_cons]
  by_cases h:(-1:Int)<a
  ·simp[h]
  ·have:CJ a=false:=by simp[CJ];omega
   simp[this]
def WK (l:List Int):Nat->Int
 |0=> -1
 |k+1=>(l[k]?).getD 0
theorem To (l:List Int) (hl:l.length<=1000000):A17 157 [.t (.slice .any 1 (l.map Bz))] [] (.t (.bool (BR l))) []:=by
 rw[<-Wn]
 have hlm:(l.map Bz).length=l.length:=List.length_map ..
 refine ct0 Ag Tryz.func157 Y false Y Y ?_
 repeat'(first|exact prB|refine stC ?_|refine stU (fun h=>?_) fun h=>?_|refine stN (fun b hb=>?_)|fail)
 refine A3 (ι:=Nat) (fun k=>k<=l.length/\L5 (-1) l=L5 (WK l k) (l.drop k)) (fun k=>[(0,.t (.slice .any 1 (l.map Bz))),(3,.t (.int .i64 (WK l k))),(4,.t (.int .i64 k))]) (fun _=>[]) (fun k=>l.length-k) 0 ⟨by omega,Y⟩ ?_ ?_
 ·exact AE [] (Af Y Y (Af Y Y (Af Y Y Aj))) Y
 rintro k ⟨hk,he⟩
 rw[he]
 by_cases hlt:k<l.length
 ·have hr:l[k]?=some l[k]:=List.getElem?_eq_getElem hlt
  rw[List.drop_eq_getElem_cons hlt]at he⊢
  have hls:WK l (k+1)=l[k]:=by simp[WK,hr]
  generalize l[k]=a at hr he hls⊢
  generalize WK l k=m at he⊢
  repeat'(first|exact prB|refine stC ?_|refine stU (fun h=>?_) fun h=>?_|refine stN (fun b hb=>?_)|fail)
  all_goals first
   |(exfalso;omega)
   |exact Ai Y (AP (by simp[L5];omega))
   |(refine Ay (k+1) ⟨hlt,?_⟩ Aa [] (Af Y Y (Af Y (by rw[hls]) (Af Y (by rw[An Aa Aa];rfl) Aj))) Y
     rw[hls]
     have h1:m<a:=by omega
     have h3:a<3:=by omega
     simp[L5,h1,h3])
 ·repeat'(first|exact prB|refine stC ?_|refine stU (fun h=>?_) fun h=>?_|refine stN (fun b hb=>?_)|fail)
  all_goals try(exfalso;omega)
  rw[List.drop_eq_nil_of_le Aa]
  exact Ai Y (A1y Y)
theorem Ir (a b:Coord) (ha:SmallC a):A17 110 [.agg (Ah (A4 a)),.agg (Ah (A4 b))] [] (.t (.bool (decide (a=b)))) []:=by
 have h1:=ha.parts
 have h2:=ha.pends
 have hla:(a.parts.map Bz).length=a.parts.length:=List.length_map ..
 have hlb:(b.parts.map Bz).length=b.parts.length:=List.length_map ..
 have hpa:(a.pends.map AB).length=a.pends.length:=List.length_map ..
 have hpb:(b.pends.map AB).length=b.pends.length:=List.length_map ..
 refine ct0 Ag Tryz.func110 Y false Y Y ?_
 repeat'(first|exact prB|refine stC ?_|refine stU (fun h=>?_) fun h=>?_|refine stN (fun b hb=>?_)|refine stD 6 10 ?_|refine stD 11 10 ?_|fail)
 all_goals try(refine Ai Y (AP (bF fun e=>?_));subst e;first|exact absurd Y Ad|(simp_all;done))
 refine A3 (ι:=Nat) (fun i=>i<=a.parts.length/\a.parts.take i=b.parts.take i) (fun i=>[(2,.ref 4 0),(3,.ref 6 0),(5,.t (.int .i64 i))]) (fun _=>[(6,.cells (Ah (A4 b))),(4,.cells (Ah (A4 a)))]) (fun i=>a.parts.length-i) 0 Ac ?_ ?_
 ·exact AE [] (Af Y Y (Af Y Y (Af Y Y Aj))) Y
 rintro i ⟨hi,htk⟩
 by_cases hlt:i<a.parts.length
 ·have hr:a.parts[i]?=some a.parts[i]:=List.getElem?_eq_getElem hlt
  have hs:b.parts[i]?=some (b.parts[i]' Aa):=List.getElem?_eq_getElem _
  generalize a.parts[i]=r at hr
  generalize b.parts[i]' Aa=s at hs
  repeat'(first|exact prB|refine stC ?_|refine stU (fun h=>?_) fun h=>?_|refine stN (fun b hb=>?_)|refine stD 6 10 ?_|refine stD 11 10 ?_|fail)
  all_goals first
   |(exfalso;omega)
   |exact Ai Y (AP (bF (fun e=>by subst e;rw[hr]at hs;cases hs;first|exact absurd Y Ad|(simp_all;done))))
   |(have e:r=s:=by omega
     refine Ay (i+1) ⟨hlt,DV hr hs htk e⟩ Aa [] (Af Y Y (Af Y Y (Af Y ?_ Aj))) Y
     rw[An Aa Aa];rfl)
 have e6:a.parts=b.parts:=Fg Aa Aa htk
 repeat'(first|exact prB|refine stC ?_|refine stU (fun h=>?_) fun h=>?_|refine stN (fun b hb=>?_)|refine stD 6 10 ?_|refine stD 11 10 ?_|fail)
 all_goals try(exfalso;omega)
 refine A3 (ι:=Nat) (fun i=>i<=a.pends.length/\a.pends.take i=b.pends.take i) (fun i=>[(2,.ref 4 0),(3,.ref 6 0),(6,.t (.int .i64 i))]) (fun _=>[(6,.cells (Ah (A4 b))),(4,.cells (Ah (A4 a)))]) (fun i=>a.pends.length-i) 0 Ac ?_ ?_
 ·exact AE [] (Af Y Y (Af Y Y (Af Y Y Aj))) Y
 rintro j ⟨hj,htj⟩
 by_cases hlt:j<a.pends.length
 ·have hr:a.pends[j]?=some a.pends[j]:=List.getElem?_eq_getElem hlt
  have hs:b.pends[j]?=some (b.pends[j]' Aa):=List.getElem?_eq_getElem _
  generalize a.pends[j]=r at hr
  generalize b.pends[j]' Aa=s at hs
  repeat'(first|exact prB|refine stC ?_|refine stU (fun h=>?_) fun h=>?_|refine stN (fun b hb=>?_)|refine stD 6 10 ?_|refine stD 11 10 ?_|fail)
  all_goals first
   |(exfalso;omega)
   |exact Ai Y (AP (bF (fun e=>by subst e;rw[hr]at hs;cases hs;first|exact absurd Y Ad|(simp_all;done))))
   |(have e:r=s:=by cases r;cases s;simp_all
     refine Ay (j+1) ⟨hlt,DV hr hs htj e⟩ Aa [] (Af Y Y (Af Y Y (Af Y ?_ Aj))) Y
     rw[An Aa Aa];rfl)
 have e7:a.pends=b.pends:=Fg Aa Aa htj
 repeat'(first|exact prB|refine stC ?_|refine stU (fun h=>?_) fun h=>?_|refine stN (fun b hb=>?_)|refine stD 6 10 ?_|refine stD 11 10 ?_|fail)
 all_goals first
  |(exfalso;omega)
  |exact Ai Y (AP (bT (by cases a;cases b;simp_all)))
theorem Mi (c:Coord):A17 24 [.agg (Ah (A4 c))] [] (.t (.bool (decide (40<c.parts.length\/40<c.pends.length)))) []:=by
 have h1:(c.parts.map Bz).length=c.parts.length:=List.length_map ..
 have h2:(c.pends.map AB).length=c.pends.length:=List.length_map ..
 refine ct0 Ag Tryz.func24 Y false Y Y ?_
 repeat'(first|exact prB|refine stC ?_|refine stU (fun h=>?_) fun h=>?_|refine stN (fun b hb=>?_)|fail)
 all_goals(refine Ai Y (AP ?_);first|(first|exact bI Aa|exact bT Aa|exact bF Aa)|(simp_all;done)|(simp_all;first|rfl|omega))
theorem XE (c:Coord):DU [AV.agg (Ah (A4 c)),AV.agg (Ah Qw.zero)] [AV.agg (Ah (A4 c)),AV.agg (Ah (A4 BD))]:=⟨A1x _,Cp,trivial⟩
theorem Ank {α:Type} {l:List α} {f:α->Bool} {k:Nat} {x:α} (h:l[k]?=some x) (hf:f x=false):l.all f=false:=by
 cases hq:l.all f with
 |false=>rfl
 |true=>rw[List.all_eq_true.1 hq x (List.mem_of_getElem? h)]at hf;cases hf
theorem Uu {α:Type} {l:List α} {f:α->Bool} {k:Nat} {x:α} (h:l[k]?=some x) (ha:(l.take k).all f=true) (hf:f x=true):(l.take (k+1)).all f=true:=by
 rw[A5 h,List.all_append,ha];simp[hf]
def RI (c:Coord):Bool:=decide (1<=c.state/\c.state<=6)&&(JA c&&(BR c.parts&&decide (0<=c.thn/\c.thn<=20)))
def Agb (c:Coord):Bool:=decide (¬((¬(c.state=2\/c.state=3\/c.state=4)/\(c.parts≠[]\/c.pends≠[]\/0<c.age))\/(c.state=2/\c.parts=[]/\c.pends=[])))&&decide (c.thn=0\/(c.state=4/\c.epoch<100))
theorem Alx (c:Coord) (h0:c.state≠0):Bp c=(RI c&&((c.pends.all Cc&&Hd c.pends)&&Agb c)):=by
 unfold Bp RI Agb DZ
 rw[show decide ((1<=c.pid/\c.pid<=8)/\(0<=c.epoch/\c.epoch<=100)/\(1<=c.timeout/\c.timeout<=20)/\(0<=c.age/\c.age<=1048576))=JA c from rfl]
 by_cases hr:JA c=true
 ·have hb:=hr
  simp only[JA,decide_eq_true_eq]at hb
  obtain⟨s,pid,ep,to,th,ps,qs,ag⟩:=c
  simp only at h0 hb⊢
  rw[hr]
  generalize BR ps=A
  generalize qs.all Cc=Q
  generalize Hd qs=R
  generalize hps:decide (ps=[])=pz
  generalize hqs:decide (qs=[])=qz
  have e1:(ps=[])=(pz=true):=by subst hps;simp
  have e2:(qs=[])=(qz=true):=by subst hqs;simp
  simp only[ne_eq,e1,e2]
  cases A<;>cases Q<;>cases R<;>cases pz<;>cases qz
  all_goals
   rw[Bool.eq_iff_iff]
   simp only[h0,if_false]
   repeat' split
   all_goals(simp<;>omega)
 ·have hr':JA c=false:=by simpa using hr
  simp only[hr',Bool.and_false,Bool.false_and,h0,if_false]
  repeat' split
  all_goals rfl
def StC (c:Coord):Prop:= -128<=c.state/\c.state<=127
theorem I1 (c:Coord) (hc:SmallC c) (hst:StC c):A17 89 [.agg (Ah (A4 c))] [] (.t (.bool (Bp c))) []:=by
 have cs:=(Ir c BD hc).args (XE c)
 by_cases h0:c.state=0
 ·rw[show Bp c=decide (c=BD)by unfold Bp;rw[if_pos h0]]
  refine ct0 Ag Tryz.func89 Y false Y Y ?_
  repeat'(first|exact prB|refine stC ?_|refine stU (fun h=>?_) fun h=>?_|refine stN (fun b hb=>?_)|refine stD 8 22 ?_|refine stL ?_ (c:=cs)|fail)
  all_goals first
   |(exfalso;omega)
   |exact Ai Y (A1y Y)
 rw[Alx c h0]
 have hl:=hc.pends
 have hlp:(c.pends.map AB).length=c.pends.length:=List.length_map ..
 have hll:(c.parts.map Bz).length=c.parts.length:=List.length_map ..
 have cr:=To c.parts hc.parts
 have cb:=Aex c
 have hws:IntKind.i64.wrap c.state=c.state:=An (by have:=hst.1;omega) (by have:=hst.2;omega)
 have c1:A17 156 [.t (.int .i64 (IntKind.i64.wrap c.state)),.t (.int .i64 1),.t (.int .i64 6)] [] (.t (.bool (decide (1<=c.state/\c.state<=6)))) []:=by
  have:=FP (IntKind.i64.wrap c.state) 1 6
  rwa[show decide (1<=IntKind.i64.wrap c.state/\IntKind.i64.wrap c.state<=6)=decide (1<=c.state/\c.state<=6)by rw[hws]]at this
 have c2:=FP c.pid 1 8
 have c3:=FP c.epoch 0 100
 have c4:=FP c.timeout 1 20
 have c5:=FP c.age 0 1048576
 have c6:=FP c.thn 0 20
 cases hH:RI c with
 |false=>
  rw[Bool.false_and]
  unfold RI JA at hH
  generalize BR c.parts=A at cr hH
  refine ct0 Ag Tryz.func89 Y false Y Y ?_
  repeat'(first|exact prB|refine stC ?_|refine stU (fun h=>?_) fun h=>?_|refine stN (fun b hb=>?_)|refine stD 8 22 ?_|refine stL ?_ (c:=c1)|refine stL ?_ (c:=c2)|refine stL ?_ (c:=c3)|refine stL ?_ (c:=c4)|refine stL ?_ (c:=c5)|refine stL ?_ (c:=c6)|refine stL ?_ (c:=cr)|fail)
  all_goals first
   |exact Ai Y (A1y Y)
   |(exfalso;simp_all;done)
   |(exfalso;simp_all;omega)
 |true=>
  rw[Bool.true_and]
  have hb:=hH
  simp only[RI,JA,Bool.and_eq_true,decide_eq_true_eq]at hb
  obtain⟨b1,b2,b3,b4⟩:=hb
  rw[b3]at cr
  refine ct0 Ag Tryz.func89 Y false Y Y ?_
  repeat'(first|exact prB|refine stC ?_|refine stU (fun h=>?_) fun h=>?_|refine stN (fun b hb=>?_)|refine stD 8 22 ?_|refine stL ?_ (c:=c1)|refine stL ?_ (c:=c2)|refine stL ?_ (c:=c3)|refine stL ?_ (c:=c4)|refine stL ?_ (c:=c5)|refine stL ?_ (c:=c6)|refine stL ?_ (c:=cr)|fail)
  all_goals try(exfalso;simp_all;done)
  all_goals try(exfalso;omega)
  refine A3 (ι:=Nat) (fun k=>k<=c.pends.length/\(c.pends.take k).all Cc=true/\CD ltP (c.pends.take k)=true) (fun k=>[(1,.ref 2 0),(3,.t (.int .i64 k))]) (fun _=>[(2,.cells (Ah (A4 c)))]) (fun k=>c.pends.length-k) 0 ⟨by omega,by simp,by simp[CD]⟩ ?_ ?_
  ·exact AE [] (Af Y Y (Af Y Y Aj)) Y
  rintro k ⟨hk,hall,hri⟩
  by_cases hlt:k<c.pends.length
  ·have hr:c.pends[k]?=some c.pends[k]:=List.getElem?_eq_getElem hlt
   generalize c.pends[k]=p at hr
   have cp:=Adh p
   cases hp:Cc p with
   |false=>
    rw[hp]at cp
    rw[Ank hr hp]
    rcases k with _|j
    all_goals
     repeat'(first|exact prB|refine stC ?_|refine stU (fun h=>?_) fun h=>?_|refine stN (fun b hb=>?_)|refine stD 8 22 ?_|refine stM ?_ (c:=cp)|refine stL ?_ (c:=cp)|fail)
     all_goals first
      |exact Ai Y (A1y Y)
      |(exfalso;omega)
   |true=>
    rw[hp]at cp
    rcases k with _|j
    ·repeat'(first|exact prB|refine stC ?_|refine stU (fun h=>?_) fun h=>?_|refine stN (fun b hb=>?_)|refine stD 8 22 ?_|refine stM ?_ (c:=cp)|refine stL ?_ (c:=cp)|fail)
     all_goals first
      |(exfalso;omega)
      |(refine Ay 1 ⟨hlt,Uu hr hall hp,by rw[A5 hr];simp[CD]⟩ Aa [] (Af Y Y (Af Y (by rw[An Aa Aa];rfl) Aj)) Y)
    ·have ha:c.pends[j]?=some (c.pends[j]' Aa):=List.getElem?_eq_getElem _
     generalize c.pends[j]' Aa=a at ha
     have ht:=JX ltP ha hr hri
     have ca:=ZO a p
     have hw:IntKind.i64.wrap (((j+1:Nat):Int)-1)=((j:Nat):Int):=by rw[An Aa Aa];omega
     cases hab:ltP a p with
     |true=>
      rw[hab]at ca
      repeat'(first|exact prB|refine stC ?_|refine stU (fun h=>?_) fun h=>?_|refine stN (fun b hb=>?_)|refine stD 8 22 ?_|refine stM ?_ (c:=cp)|refine stL ?_ (c:=cp)|refine stM ?_ (c:=ca)|refine stL ?_ (c:=ca)|fail)
      all_goals first
       |(exfalso;omega)
       |(refine Ay (j+1+1) ⟨hlt,Uu hr hall hp,by rw[ht];exact hab⟩ Aa [] (Af Y Y (Af Y (by rw[An Aa Aa];rfl) Aj)) Y)
     |false=>
      rw[hab]at ca
      rw[MF,NU _ (i:=j+1+1) (by rw[ht];exact hab)]
      repeat'(first|exact prB|refine stC ?_|refine stU (fun h=>?_) fun h=>?_|refine stN (fun b hb=>?_)|refine stD 8 22 ?_|refine stM ?_ (c:=cp)|refine stL ?_ (c:=cp)|refine stM ?_ (c:=ca)|refine stL ?_ (c:=ca)|fail)
      all_goals first
       |(exfalso;omega)
       |exact Ai Y (A1y Ac)
  rw[List.take_of_length_le Aa]at hall hri
  rw[hall,MF,hri,Bool.true_and,Bool.true_and]
  have hpa:((c.parts.map Bz).length:Int)=0↔c.parts=[]:=by simp
  have hpe:((c.pends.map AB).length:Int)=0↔c.pends=[]:=by simp
  have hpg:0<((c.parts.map Bz).length:Int)↔ ¬c.parts=[]:=by rw[<-hpa];omega
  have hqg:0<((c.pends.map AB).length:Int)↔ ¬c.pends=[]:=by rw[<-hpe];omega
  unfold Agb
  repeat'(first|exact prB|refine stC ?_|refine stU (fun h=>?_) fun h=>?_|refine stN (fun b hb=>?_)|refine stD 8 22 ?_|refine stL ?_ (c:=cb)|fail)
  all_goals try(exfalso;omega)
  all_goals refine Ai Y (AP ?_)
  all_goals simp only[hpa,hpe,hpg,hqg]at*
  all_goals first
   |(simp_all;done)
   |(simp_all;omega)
theorem Ard (b:Nat) (l:List Int):B5 b 1 (l.map Bz) (.row b 1 0 (l.map Bz).length)=.t (.slice .any 1 (l.map Bz)):=by
 simp[B5]
 exact List.take_of_length_le Ac
theorem LY (c:Coord) (hc:SmallC c) (hst:StC c) (l:List Int) (hl:l.length<=1000000) (hm:Bp c=true) (hp:BR l=true) (h0:c.state≠0):A17 106 [.agg (Ah (A4 c)),.t (.slice .any 1 (l.map Bz))] [] (.tuple [.agg (Ah (A4 (Ed c l))),.t (.int .i64 0)]) []:=by
 have cm:=I1 c hc hst
 have ca:=To l hl
 rw[hm]at cm
 rw[hp]at ca
 have hf1:=Ard 70 l
 have hf2:=Ard 134 l
 have hpa:(((l.map Bz).length:Int)=0)↔l=[]:=by simp
 have hpe:(((c.pends.map AB).length:Int)=0)↔c.pends=[]:=by simp
 have hlm:(l.map Bz).length=l.length:=List.length_map ..
 have e:Fq c l=0:=by unfold Fq;rw[if_neg (by simp[hm,hp]),if_neg (fun x=>h0 x.1)]
 have ec:Ed c l=(if c.state=3\/c.state=4 then{c with parts:=l}else if c.state=2 then(if l=[]/\c.pends=[]then{c with parts:=l,state:=1,age:=0}else{c with parts:=l})else if l≠[]then{c with parts:=l,state:=2}else{c with parts:=l}):=by
  unfold Ed;rw[e];simp
 rw[ec]
 have hthn:c.state=2->c.thn=0:=by
  intro h
  unfold Bp at hm
  simp[h]at hm
  exact hm.1.2
 by_cases hz:l=[]
 ·have hz0:((l.map Bz).length:Int)=0:=hpa.2 hz
  by_cases s34:c.state=3\/c.state=4
  ·rw[if_pos s34]
   refine ct0 Ag Tryz.func106 Y false Y Y ?_
   repeat'(first|exact prB|refine stC ?_|refine stU (fun h=>?_) fun h=>?_|refine stN (fun b hb=>?_)|refine stL ?_ (c:=cm)|refine stL ?_ (c:=ca)|refine BF 35 70 Y Y Y hf1 ?_|refine BF 67 134 Y Y Y hf2 ?_|fail)
   all_goals try(exfalso;omega)
   all_goals first
    |(refine Ai Y ?_;(repeat'(first|exact A1x _|exact Ak|exact Ar|exact trivial|refine AA ?_|refine Ap ?_|refine And.intro ?_ ?_));done)
    |(refine Ai Y ?_;(repeat'(first|exact A1x _|exact Ak|exact Ar|exact trivial|refine AA ?_|refine Ap ?_|refine And.intro ?_ ?_));exact A1y hf1)
  ·rw[if_neg s34]
   by_cases s2:c.state=2
   ·rw[if_pos s2]
    have ht:=hthn s2
    by_cases hpz:c.pends=[]
    ·rw[if_pos ⟨hz,hpz⟩]
     have hpz0:((c.pends.map AB).length:Int)=0:=hpe.2 hpz
     refine ct0 Ag Tryz.func106 Y false Y Y ?_
     repeat'(first|exact prB|refine stC ?_|refine stU (fun h=>?_) fun h=>?_|refine stN (fun b hb=>?_)|refine stL ?_ (c:=cm)|refine stL ?_ (c:=ca)|refine BF 35 70 Y Y Y hf1 ?_|refine BF 67 134 Y Y Y hf2 ?_|fail)
     all_goals try(exfalso;omega)
     all_goals first
      |(refine Ai Y ?_;simp only[hz,hpz,ht];(repeat'(first|exact A1x _|exact Ak|exact Ar|exact trivial|refine AA ?_|refine Ap ?_|refine And.intro ?_ ?_));done)
    ·rw[if_neg (fun x=>hpz x.2)]
     have hpz0: ¬((c.pends.map AB).length:Int)=0:=fun x=>hpz (hpe.1 x)
     refine ct0 Ag Tryz.func106 Y false Y Y ?_
     repeat'(first|exact prB|refine stC ?_|refine stU (fun h=>?_) fun h=>?_|refine stN (fun b hb=>?_)|refine stL ?_ (c:=cm)|refine stL ?_ (c:=ca)|refine BF 35 70 Y Y Y hf1 ?_|refine BF 67 134 Y Y Y hf2 ?_|fail)
     all_goals try(exfalso;omega)
     all_goals first
      |(refine Ai Y ?_;simp only[hz];(repeat'(first|exact A1x _|exact Ak|exact Ar|exact trivial|refine AA ?_|refine Ap ?_|refine And.intro ?_ ?_));done)
   ·rw[if_neg s2,if_neg (fun x=>x hz)]
    refine ct0 Ag Tryz.func106 Y false Y Y ?_
    repeat'(first|exact prB|refine stC ?_|refine stU (fun h=>?_) fun h=>?_|refine stN (fun b hb=>?_)|refine stL ?_ (c:=cm)|refine stL ?_ (c:=ca)|refine BF 35 70 Y Y Y hf1 ?_|refine BF 67 134 Y Y Y hf2 ?_|fail)
    all_goals try(exfalso;omega)
    all_goals first
     |(refine Ai Y ?_;simp only[hz];(repeat'(first|exact A1x _|exact Ak|exact Ar|exact trivial|refine AA ?_|refine Ap ?_|refine And.intro ?_ ?_));done)
 ·have hz0: ¬((l.map Bz).length:Int)=0:=fun x=>hz (hpa.1 x)
  by_cases s34:c.state=3\/c.state=4
  ·rw[if_pos s34]
   refine ct0 Ag Tryz.func106 Y false Y Y ?_
   repeat'(first|exact prB|refine stC ?_|refine stU (fun h=>?_) fun h=>?_|refine stN (fun b hb=>?_)|refine stL ?_ (c:=cm)|refine stL ?_ (c:=ca)|refine BF 35 70 Y Y Y hf1 ?_|refine BF 67 134 Y Y Y hf2 ?_|fail)
   all_goals try(exfalso;omega)
   all_goals first
    |(refine Ai Y ?_;(repeat'(first|exact A1x _|exact Ak|exact Ar|exact trivial|refine AA ?_|refine Ap ?_|refine And.intro ?_ ?_));done)
    |(refine Ai Y ?_;(repeat'(first|exact A1x _|exact Ak|exact Ar|exact trivial|refine AA ?_|refine Ap ?_|refine And.intro ?_ ?_));exact A1y hf1)
  ·rw[if_neg s34]
   by_cases s2:c.state=2
   ·rw[if_pos s2,if_neg (fun x=>hz x.1)]
    refine ct0 Ag Tryz.func106 Y false Y Y ?_
    repeat'(first|exact prB|refine stC ?_|refine stU (fun h=>?_) fun h=>?_|refine stN (fun b hb=>?_)|refine stL ?_ (c:=cm)|refine stL ?_ (c:=ca)|refine BF 35 70 Y Y Y hf1 ?_|refine BF 67 134 Y Y Y hf2 ?_|fail)
    all_goals try(exfalso;omega)
    all_goals first
     |(refine Ai Y ?_;simp only[s2];(repeat'(first|exact A1x _|exact Ak|exact Ar|exact trivial|refine AA ?_|refine Ap ?_|refine And.intro ?_ ?_));done)
     |(refine Ai Y ?_;simp only[s2];(repeat'(first|exact A1x _|exact Ak|exact Ar|exact trivial|refine AA ?_|refine Ap ?_|refine And.intro ?_ ?_));exact A1y hf2)
   ·rw[if_neg s2,if_pos hz]
    refine ct0 Ag Tryz.func106 Y false Y Y ?_
    repeat'(first|exact prB|refine stC ?_|refine stU (fun h=>?_) fun h=>?_|refine stN (fun b hb=>?_)|refine stL ?_ (c:=cm)|refine stL ?_ (c:=ca)|refine BF 35 70 Y Y Y hf1 ?_|refine BF 67 134 Y Y Y hf2 ?_|fail)
    all_goals try(exfalso;omega)
    all_goals first
     |(refine Ai Y ?_;(repeat'(first|exact A1x _|exact Ak|exact Ar|exact trivial|refine AA ?_|refine Ap ?_|refine And.intro ?_ ?_));done)
     |(refine Ai Y ?_;(repeat'(first|exact A1x _|exact Ak|exact Ar|exact trivial|refine AA ?_|refine Ap ?_|refine And.intro ?_ ?_));exact A1y hf2)
theorem Adb (c:Coord) (hc:SmallC c) (yes:Bool) (thn:Int) (hm:Bp c=true) (h2:c.state=2) (hf:(0<=thn/\thn<=20)/\(yes=true->thn=0)) (hx: ¬(0<thn/\c.epoch=100)):A17 230 [.agg (Ah (A4 c)),.t (.bool yes),.t (.int .i64 thn)] [] (.tuple [.agg (Ah (A4 {c with state:=if yes=true then 3 else 4,thn:=thn})),.t (.int .i64 0)]) []:=by
 have cm:=I1 c hc ⟨by omega,by omega⟩
 have ci:=Ad6 c
 have cn:=FP thn 0 20
 rw[hm]at cm
 rw[decide_eq_true hf.1]at cn
 rw[decide_eq_false Aa]at ci
 cases yes
 all_goals
  refine ct0 Ag Tryz.func230 Y false Y Y ?_
  repeat'(first|exact prB|refine stC ?_|refine stU (fun h=>?_) fun h=>?_|refine stN (fun b hb=>?_)|refine stL ?_ (c:=cm)|refine stL ?_ (c:=ci)|refine stL ?_ (c:=cn)|fail)
  all_goals first
   |(exfalso;omega)
   |(exfalso;simp_all;done)
   |(exfalso;simp_all;omega)
   |exact Ai Y (A1y Y)
theorem ZG (c:Coord) (hc:SmallC c) (hm:Bp c=true) (hs:c.state=3\/c.state=4):A17 231 [.agg (Ah (A4 c))] [] (.tuple [.agg (Ah (A4 (Cd c))),.t (.int .i64 0)]) []:=by
 have cm:=I1 c hc ⟨by omega,by omega⟩
 rw[hm]at cm
 have hb:CY c.state 3=true:=by rcases hs with h|h<;>simp[CY,h]
 have e:DH c=0:=by simp[DH,Fw,hm,hb]
 have ec:Cd c=if 0<c.thn then⟨1,c.pid,c.epoch+1,c.thn,0,[],[],0⟩else⟨if c.state=4 then 6 else 5,c.pid,c.epoch,c.timeout,0,[],[],0⟩:=by simp[Cd,e]
 rw[ec]
 have hn:=DY (D2 hm Aa)
 have hw:IntKind.i64.wrap (c.epoch+1)=c.epoch+1:=An Aa Aa
 have h3:c.state=3->c.thn=0:=by
  intro h
  unfold Bp at hm
  simp[h]at hm
  exact hm.1
 by_cases ht:0<c.thn
 ·rw[if_pos ht]
  refine ct0 Ag Tryz.func231 Y false Y Y ?_
  repeat'(first|exact prB|refine stC ?_|refine stU (fun h=>?_) fun h=>?_|refine stN (fun b hb=>?_)|refine stL ?_ (c:=cm)|fail)
  all_goals first
   |(exfalso;omega)
   |(refine Ai Y ?_;simp only[hw];(repeat'(first|exact A1x _|exact Ak|exact Ar|exact trivial|refine AA ?_|refine Ap ?_|refine And.intro ?_ ?_));done)
 ·rw[if_neg ht]
  rcases hs with hs|hs
  all_goals
   simp only[hs,if_true,if_false,Int.reduceEq]
   refine ct0 Ag Tryz.func231 Y false Y Y ?_
   repeat'(first|exact prB|refine stC ?_|refine stU (fun h=>?_) fun h=>?_|refine stN (fun b hb=>?_)|refine stL ?_ (c:=cm)|fail)
   all_goals first
    |(exfalso;omega)
    |(refine Ai Y ?_;(repeat'(first|exact A1x _|exact Ak|exact Ar|exact trivial|refine AA ?_|refine Ap ?_|refine And.intro ?_ ?_));done)
end Go.Proofs.YtmohpcgmdheafaaGreatDoor
