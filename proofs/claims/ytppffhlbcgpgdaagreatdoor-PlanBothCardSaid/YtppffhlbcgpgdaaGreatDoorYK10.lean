/- Lemmas toward the law; each names its conditions. -/
import Derived.Test.YtppffhlbcgpgdaaGreatDoorYK9
set_option linter.all false
set_option maxRecDepth 100000
set_option maxHeartbeats 8000000
namespace Go.Proofs.YtppffhlbcgpgdaaGreatDoor
open Go.Am
attribute [local irreducible] Decidable.decide Tr A6 CG EJ
def EL (l:List Prod) (lO:Int):List Prod:=match l.findIdx? (λx=>decide (x.lO=lO))with
 |some i=>(match l[i]? with
  |some x=>Tw l i (i+1) {x with s9:=[]}
  |none=>l)
 |none=>l
theorem Zc (lO:Int) (p:Prod):A3z 159 (.agg (Af (Ar p))::Af [.ptr [.int .i64 lO]]) [] (.t (.bool (decide (p.lO=lO)))) []:=by
 refine yF Tryz.func159 ?_
 repeat'(first|exact Au|refine yC ?_ ?_|refine⟨λh=>?_⟩|fail)
 exact Ah Y (A3l _)
theorem Anq (l:List Prod) (lO:Int) (hl:Gj l):A3z 107 [.t (.slice .any 4 (l.map Ar)),.t (.int .i64 lO)] [] (.t (.slice .any 4 ((EL l lO).map Ar))) []:=by
 have aO:=hl.1;have cf:=Kx 159 [.ptr [.int .i64 lO]] (λp=>decide (p.lO=lO)) l Aa (Zc lO) Y;refine yF Tryz.func107 ?_;refine HA ?_;refine Jx Ai Y Y ?_
 repeat'(first|exact Au|refine yA ?_ ?_|refine⟨λh=>?_⟩|fail)
 refine A3q (cs:=[.int .i64 lO]) 3 6 Y Y Y Y ?_
 cases hh:l.any (λp=>decide (p.lO=lO))with
 |false=>
  rw[hh]at cf
  have hs:EL l lO=l:=by
   have:l.findIdx? (λx=>decide (x.lO=lO))=none:=by rw[A5e];intro x hx;simpa using A4u.1 hh x hx
   simp[EL,this]
  repeat'(first|exact Au|refine yC ?_ ?_|refine⟨λh=>?_⟩|fail)
  exact Ah Y (A3m (by rw[hs];rfl))
 |true=>
  obtain⟨i,x,hx,hi,_,_⟩:=LZ hh;rw[hh,hi]at cf;have aC:=(ZH.1 hx).1
  have jI:l.findIdx? (λx=>decide (x.lO=lO))=some i:=by
   unfold Q5 at hi
   cases hf:l.findIdx? (λx=>decide (x.lO=lO))with
   |none=>rw[hf]at hi;simp at hi;omega
   |some j=>rw[hf]at hi;simp at hi;exact A5s some Aa
  have cp1:=IY l i (i+1) {x with s9:=[]} hl Aa Aa Ac;have hw:IntKind.i64.wrap ((i:Int)+1)=((i+1:Nat):Int):=by rw[A1 Aa Aa];rfl
  rw[<-hw]at cp1
  repeat'(first|exact Au|refine yC ?_ ?_|refine⟨λh=>?_⟩|refine KN Ai Y Y Y Y Y Y Y Y (C8 hx) Y ?_|refine CO Ai Y Y Y Y (cp1) Y Y Y ⟨A3l _,A3l _,A3l _,(by refine AC ?_;exact⟨A3l _,A3l _,A3l _,Ay,trivial⟩),trivial⟩ ?_|fail)
  refine Ah Y (A3m ?_);simp[EL,jI,hx]
theorem Apc (e i:Int) (he:e=0\/e=1) (hi:i=0\/i=1\/i=2) (l:List Entry) (hl:l.length<=1000000) (cS: ∀x∈l,F2 x) (bA:Tx l=0):A3z 380 [.agg (Af (BI e i)),.t (.slice .any 18 (l.map AP)),.t (.int .i64 0)] [] (.tuple [.t (.slice .any 4 ((RN (F5 e i) l).map BE)),.t .nilIface]) []:=by
 have cl:=Iv e i he hi;have cp:=On (F5 e i) l hl cS;rw[bA]at cp;refine yF Tryz.func380 ?_
 repeat'(first|exact Au|refine yC ?_ ?_|refine⟨λh=>?_⟩|fail)
 exact Ah Y (A3l _)
def Pz (o:Opn) (oC:Bool):Entry:={kind:=1,b:=⟨o.lO,o.lT,0,false,[]⟩,oC:=oC,next:=0,offset:=0,row:=⟨0,0,0,[],[]⟩,vM:=EB}
theorem Amu {o:Opn} {oC:Bool} (h1:1<=o.lO/\o.lO<=8) (h2:0<=o.lT/\o.lT<=100):Cs (Pz o oC)=true:=by
 have h:DV (Pz o oC)=true:=by simp[DV,IK,Pz,KH,EB]
 simp only[Cs,h,A5a];simp[Pz,h1.1,h1.2,h2.1,h2.2]
theorem Arj (e i:Int) (he:e=0\/e=1) (hi:i=0\/i=1\/i=2) (o:Opn) (oC:Bool) (h1:1<=o.lO/\o.lO<=8) (h2:0<=o.lT/\o.lT<=100):A3z 377 [.t (.agg (BI e i)),.agg (Af (An o)),.t (.bool oC)] [] (.tuple [.t (.slice .any 4 ((EV (F5 e i) [Pz o oC]).map BE)),.t .nilIface]) []:=by
 have hm:Cs (Pz o oC)=true:=Amu h1 h2;have cp:=Apc e i he hi [Pz o oC] Ac (by simp[F2,Pz,EB]) (by simp[Tx,hm]);rw[show RN (F5 e i) [Pz o oC]=EV (F5 e i) [Pz o oC]by simp[RN,hm]]at cp;refine yF Tryz.func377 ?_
 repeat'(first|exact Au|refine yC ?_ ?_|refine⟨λh=>?_⟩|refine CO Ai Y Y Y Y cp Y Y Y ⟨A3l _,Jk ⟨⟨A3u _,A3u _,A3u _,A3u _,A3u _,AD.nil,A3u _,A3u _,A3u _,A3u _,A3u _,A3u _,A3u _,A3u _,A3u _,A3u _,A3u _,AD.nil,trivial⟩,trivial⟩,A3l _,trivial⟩ ?_|fail)
 exact Ah Y (A3l _)
def Wt (o:Opn):Entry:={kind:=4,b:=⟨o.lO,o.lT,0,false,[]⟩,oC:=false,next:=Gr o.gG,offset:=0,row:=⟨0,0,0,[],[]⟩,vM:=EB}
theorem Vl {lO ep:Int}: ∀{l:List Batch} {n:Int},Cu lO ep n l=true-> ∀b∈l,A4 b=true/\b.vV=true/\b.lO=lO/\b.lT=ep
 |[],_,_,b,hb=>by simp at hb
 |a::r,n,h,b,hb=>by
  simp only[Cu,Qp,Uj]at h;rcases Als.1 hb with rfl|hb
  ·exact⟨h.1.1.1.1.1,h.1.1.1.1.2,h.1.1.1.2,h.1.1.2⟩
  ·exact Vl h.2 b hb
theorem E2 {o:Opn} (h:Cp o=true): ∀b∈o.gG,A4 b=true/\b.vV=true/\b.lO=o.lO/\b.lT=o.lT:=by
 simp only[Cp,Qp]at h;exact Vl h.2
theorem IH {o:Opn} (h:Cp o=true):(1<=o.lO/\o.lO<=8)/\0<=o.lT/\o.lT<=100:=by
 have hl:=CM h;obtain⟨b,hb⟩: ∃b,b∈o.gG:=List.exists_mem_of_length_pos Aa;obtain⟨h1,_,h2,h3⟩:=E2 h b hb;have jB:=Nd h1;unfold E5 at jB;omega
theorem UJ: ∀{l:List Batch},l≠[]-> ∃b∈l,Gr l=E6 b
 |[],h=>absurd Y h
 |[a],_=>⟨a,Ac,Y⟩
 |a::c::r,_=>by
  obtain⟨b,h1,h2⟩:=UJ (l:=c::r) Ac;exact⟨b,by simp at h1⊢;exact .inr h1,by simpa[Gr]using h2⟩
theorem NU {o:Opn} (h:Cp o=true):0<=Gr o.gG/\Gr o.gG<=1048576:=by
 have hl:=CM h;obtain⟨b,hb,e⟩:=UJ (l:=o.gG) (λh=>by rw[h]at hl;simp at hl);have:=BV (E2 h b hb).1;rw[e];unfold E6;omega
theorem Amt {o:Opn} (h:Cp o=true):Cs (Wt o)=true:=by
 obtain⟨h1,h2⟩:=IH h;have h3:=NU h;have hb:DV (Wt o)=true:=by simp[DV,IK,Wt,KH,EB]
 simp only[Cs,hb,A5a];simp[Wt,h1.1,h1.2,h2.1,h2.2,h3.1,h3.2]
theorem Ab7 {o:Opn} (h:Cp o=true):(CI o).all Cs=true/\CI o≠[]/\ ∀x∈CI o,F2 x:=by
 have hl:=CM h;have h3:=NU h
 have key: ∀x∈CI o,Cs x=true/\F2 x:=λx hx=>by
  obtain⟨i,hi,rfl⟩:=A8m.1 hx;simp only[CI,List.length_mapIdx]at hi;obtain⟨q1,q2,_⟩:=E2 h o.gG[i] (Agz hi);have hm:=BV q1;simp only[CI,List.getElem_mapIdx,Jq];split
  ·refine⟨?_,by simp[F2];omega⟩;have hb:DV ⟨3,o.gG[i],true,Gr o.gG,0,N7,IZ⟩=true:=by simp[DV,IK]
   simp only[Cs,hb,A5a];simp[q1,q2,h3.1,h3.2]
  ·refine⟨?_,by simp[F2];omega⟩;have hb:DV ⟨3,o.gG[i],false,0,0,N7,IZ⟩=true:=by simp[DV,IK]
   simp only[Cs,hb,A5a];simp[q1,q2]
 refine⟨A21.2 λx hx=>(key x hx).1,λhe=>?_,λx hx=>(key x hx).2⟩;have:(CI o).length=o.gG.length:=by simp[CI]
 rw[he]at this;simp at this;omega
theorem Arv (o:Opn) (h:Cp o=true) (hs:Iw o):A3z 384 [.agg (Af (An o))] [] (.tuple [.agg (Af (AP (Wt o))),.t (.int .i64 0)]) []:=by
 have cc:=SS o hs;rw[show EE o=.nilIface by simp[EE,h]]at cc;have hl:=CM h;have cb:=ST o hl.1 hl.2 (λb hb=>(E2 h b hb).1);refine yF Tryz.func384 ?_
 repeat'(first|exact Au|refine yC ?_ ?_|refine⟨λh=>?_⟩|refine B5 4 7 ?_|fail)
 refine Ah Y (As ⟨AC ?_,A3l _,trivial⟩);exact⟨A3l _,A3l _,A3l _,A3l _,A3l _,Ay,A3l _,A3l _,A3l _,A3l _,A3l _,A3l _,A3l _,A3l _,A3l _,A3l _,A3l _,Ay,trivial⟩
theorem Ams (name:Bs) (l:List Entry) (hl:l.length<=1000000) (cS: ∀x∈l,F2 x) (aI:l.all Cs=true) (aE:l≠[]):A3z 126 [.t (.str name),.t (.slice .any 18 (l.map AP))] [] (.tuple [.row 86 4 0 ((EV name l).map BE).length,.t (.int .i64 0)]) [(86,.grow 4 ((EV name l).map BE))]:=by
 refine yG Tryz.func126 ?_;have cl:=Yj l hl cS;simp only[WU aI]at cl;have aQ:((l.map BW).map Lz).length=l.length:=Ac;have dH:l.length≠0:=λe=>aE (Aq1 e)
 repeat'(first|exact Au|refine yB ?_ ?_|refine⟨λh=>?_⟩|fail)
 all_goals try(exfalso;omega)
 refine A3n 8 43 4 Y Y ?_;refine AW (ι:=Nat) (λi=>i<=l.length) (λi=>[(0,.t (.str name)),(8,.row 86 4 0 (((l.take i).map (Vq name)).map BE).length),(25,.t (.slice .any 1 ((l.map BW).map Lz))),(26,.t (.int .i64 l.length)),(27,.t (.int .i64 i))]) (λi=>[(86,.grow 4 (((l.take i).map (Vq name)).map BE))]) (λi=>l.length-i) 0 Ac ?_ ?_
 ·exact Bb [] (Ag Y Y (Ag Y Y (Ag Y Y (Ag Y (by rw[aQ]) Aa6)))) Y
 rintro i hi;by_cases aC:i<l.length
 ·have hr:l[i]?=some l[i]:=Kv aC;have hm:=A21.1 aI l[i] (Agz aC);generalize l[i]=r at hr hm;have gV:(l.map BW)[i]?=some (BW r):=by simp[hr]
  repeat'(first|exact Au|refine yB ?_ ?_|refine⟨λh=>?_⟩|refine Ab0 ?_ (c:=Pv _ (SE hm))|fail)
  refine AM (i+1) aC Aa [] (Ag Y Y (Ag Y ?_ (Ag Y Y (Ag Y Y (Ag Y ?_ A8))))) ?_
  ·rw[AB hr];simp[CH]
  ·rw[A1 Aa Aa];rfl
  ·rw[AB hr];simp[CH,TY,BE,Vq,HI,CX]
 ·repeat'(first|exact Au|refine yB ?_ ?_|refine⟨λh=>?_⟩|fail)
  refine B3 ?_
  have he:(EV name l).map BE=((l.take i).map (Vq name)).map BE++[BE ⟨1,name,[],0⟩]:=by
   rw[QQ Aa];simp[EV]
  rw[he];exact A0 [] Y Y Y (A3l _)
theorem WV (e i:Int) (he:e=0\/e=1) (hi:i=0\/i=1\/i=2) (l:List Entry) (hl:l.length<=1000000) (cS: ∀x∈l,F2 x) (aI:l.all Cs=true) (aE:l≠[]):A3z 380 [.agg (Af (BI e i)),.t (.slice .any 18 (l.map AP)),.t (.int .i64 0)] [] (.tuple [.row 86 4 0 ((EV (F5 e i) l).map BE).length,.t .nilIface]) [(86,.grow 4 ((EV (F5 e i) l).map BE))]:=by
 have cl:=Iv e i he hi;have cp:=Ams (F5 e i) l hl cS aI aE;refine yG Tryz.func380 ?_
 repeat'(first|refine BT [] [(86,86)] cp ?_|exact Au|refine yB ?_ ?_|refine⟨λh=>?_⟩|fail)
 refine B3 ?_;exact A0 [3] Y Y Y (A3l _)
def Qt (i:Int) (o:Opn) (oC:Bool):List Wr:=EV (F5 1 i) (if oC=true then CI o else[Wt o])++[⟨4,Ajn i o.lO,[],0⟩]
theorem Ark (i:Int) (hi:i=0\/i=1\/i=2) (o:Opn) (oC:Bool) (h:Cp o=true) (hs:Iw o):A3z 381 [.t (.agg (BI 1 i)),.agg (Af (An o)),.t (.bool oC)] [] (.tuple [.t (.slice .any 4 ((Qt i o oC).map BE)),.t .nilIface]) []:=by
 have hl:=CM h;have cd:=Arv o h hs;have cc:=P5 o h;obtain⟨m1,m2,m3⟩:=Ab7 h;have hx:=Amt h;have gC:(CI o).length=o.gG.length:=by simp[CI]
 obtain⟨p1,p2⟩:=IH h;have csd:=Adh i o.lO hi Aa
 cases oC with
 |true=>
  have cp:=WV 1 i (.inr Y) hi (CI o) Aa m3 m1 m2;have lB:(EV (F5 1 i) (CI o)).length<=100:=by simp[EV];omega
  refine yF Tryz.func381 ?_
  repeat'(first|refine BT [] [(86,86)] cp ?_|exact Au|refine yC ?_ ?_|refine⟨λh=>?_⟩|fail)
  refine Ah Y (A3m ?_);simp[Qt,BG,BE,CH,TY];try exact QQ Ac
 |false=>
  have cp:=WV 1 i (.inr Y) hi [Wt o] Ac (by simp[F2,Wt,EB]) (by simp[hx]) Ac;have lB:(EV (F5 1 i) [Wt o]).length<=100:=by simp[EV]
  refine yF Tryz.func381 ?_
  repeat'(first|refine Ew Ai [] [(86,86)] Y Y Y Y Y (Ct.args cp ⟨A3l _,A9,A3l _,trivial⟩) Y Y Y Y Y ?_|exact Au|refine yC ?_ ?_|refine⟨λh=>?_⟩|fail)
  refine Ah Y (A3m ?_);simp[Qt,BG,BE,CH,TY];try exact QQ Ac
theorem Ak1 (e i:Int):A3z 378 [.t (.agg (BI e i))] [] (.t (.int .i64 1)) []:=by
 refine yF Tryz.func378 ?_
 repeat'(first|exact Au|refine yC ?_ ?_|refine⟨λh=>?_⟩|fail)
 exact Ah Y (A3l _)
theorem Ak2 (e i:Int):A3z 382 [.t (.agg (BI e i))] [] (.t (.int .i64 0)) []:=by
 refine yF Tryz.func382 ?_
 repeat'(first|exact Au|refine yC ?_ ?_|refine⟨λh=>?_⟩|fail)
 exact Ah Y (A3l _)
theorem Z8 (es:List (List T)) (i:Nat) (hi:i<es.length) (bW:es.length<=1000000):A3z 106 [.row 1 3 0 es.length,.t (.int .i64 i)] [(1,.grow 3 es)] (.row 1 3 0 (es.length-1)) [(1,.grow 3 (es.eraseIdx i))]:=by
 have cd:=Ahj [(1,.grow 3 es)] 1 es i Y hi bW;have hw:IntKind.i64.wrap ((i:Int)+1)=(i:Int)+1:=by rw[A1 Aa Aa]
 rw[<-hw]at cd;refine yG Tryz.func106 ?_
 repeat'(first|exact Au|refine yB ?_ ?_|refine⟨λh=>?_⟩|refine BT [(1,1)] [(1,1)] cd ?_|fail)
 refine B3 ?_;exact A0 [] Y Y Y (A3l _)
def Akk (s f:Int) (rs:List Row) (os:List (List T)) (ps:List Prod):St:=[(3,.grow 5 (rs.map Aw)),(5,.grow 3 os),(1,.cells [.t (.int .i64 s),.t (.int .i64 f),.row 3 5 0 (rs.map Aw).length,.row 5 3 0 os.length,.t (.slice .any 4 (ps.map Ar))])]
theorem UW (s f:Int) (rs:List Row) (os:List (List T)) (ps:List Prod) (b:Batch) (hb:A4 b=true) (h1:0<=f) (h2:f<=1000000000) (h3:rs.length<=2000000):
  A3z 105 [.ref 1 0,.agg (Af (Ak b))] (Akk s f rs os ps) (.tuple []) (Akk s (f+b.rZ.length) (rs++CA b f) os ps):=by
 have hm:=BV hb;have aQ:(b.rZ.map AX).length=b.rZ.length:=Ts ..;have oB:(CA b f).length=b.rZ.length:=by simp[CA]
 have sG:((CA b f).map Aw).length=b.rZ.length:=by simp[CA]
 have sF:(rs.map Aw).length=rs.length:=Ts ..;have cr:=Xq b f hb Aa Aa;refine yG Tryz.func105 ?_
 repeat'(first|exact Au|refine Vr (id:=1) Ai [0] 11 Ab Y Y Y Y Y Y (by rintro ch e s ⟨hx,_⟩;rcases hx with hx|hx<;>cases hx) ?_|refine yC ?_ ?_|refine⟨λh=>?_⟩|refine B5 1 12 ?_|refine B5 2 7 ?_|fail)
 refine AE [3] Y Y ?_ (A3l _);have hw:IntKind.i64.wrap (f+((b.rZ.map AX).length:Int))=f+b.rZ.length:=by rw[aQ,A1 Aa Aa]
 rw[hw];simp only[Akk,A38];rfl
theorem Ado (p:Part) (hs:AU p):A3z 103 [.agg (Af (Ax p))] [] (.agg [.t (.int .i64 p.vR),.t (.int .i64 p.fin),.row 28 5 0 (p.rows.map Aw).length,.row 80 3 0 (p.kI.map An).length,.t (.slice .any 4 (p.rA.map Ar))]) [(80,.grow 3 (p.kI.map An)),(28,.grow 5 (p.rows.map Aw))]:=by
 rw[Ts,Ts];refine A3y (e:=[]) [(90,.grow 4 (p.rA.map Ar))] (Aa0 p hs) ?_;have b1:Nat.beq 28 90=false:=rfl;have b2:Nat.beq 80 90=false:=rfl;have t1:(p.rA.map Ar).take p.rA.length=p.rA.map Ar:=QQ Ac;simp[EC,NH,Am.look,KJ,AV.has,F6,IM,BG,Gf,b1,b2,t1]
def Cq:List Batch->Int->List Row
 |[],_=>[]
 |b::r,f=>CA b f++Cq r (f+b.rZ.length)
def Ee:List Batch->Nat
 |[]=>0
 |b::r=>b.rZ.length+Ee r
theorem JW: ∀(l:List Batch) (b:Batch) (f:Int),Cq (l++[b]) f=Cq l f++CA b (f+Ee l)
 |[],b,f=>by simp[Cq,Ee]
 |a::r,b,f=>by simp[Cq,JW r b,Ee,A7s]
theorem MG: ∀(l:List Batch) (b:Batch),Ee (l++[b])=Ee l+b.rZ.length
 |[],b=>by simp[Ee]
 |a::r,b=>by simp[Ee,MG r b];omega
theorem Hb: ∀(l:List Batch) (f:Int),(Cq l f).length=Ee l
 |[],f=>rfl
 |a::r,f=>by simp[Cq,Ee,Hb r,CA]
theorem Hc: ∀{l:List Batch},(∀b∈l,A4 b=true)->Ee l<=4*l.length
 |[],_=>WW _
 |a::r,h=>by
  have ih:=Hc (l:=r) λb hb=>h b (by simp[hb]);have:=BV (h a Ac);simp only[Ee,A2z];omega
def P3 (e i:Int) (o:Opn) (oC:Bool):List Wr:=if e=0 then EV (F5 e i) [Pz o oC]else Qt i o oC
def KK (p:Part) (o:Opn) (oC:Bool):List Row×Int:=if oC=true then(p.rows++Cq o.gG p.fin,p.fin+Ee o.gG)else(p.rows,p.fin)
def FF (e:Int) (p:Part) (k:Nat) (o:Opn) (oC:Bool):Part:=⟨p.vR,(KK p o oC).2+(if e=0 then 1 else 0),(KK p o oC).1,p.kI.eraseIdx k,EL p.rA o.lO⟩
def Aby (p:Part) (w:List Wr):AV:=.tuple [.agg (Af (Ax p)),.t (.slice .any 4 (w.map BE)),.t (.int .i64 0)]
theorem Aa4 (e q:Int) (p:Part) (h:Fy e q p=false) (hs:AU p):A3z 102 [.t (.int .i8 e),.t (.int .i64 q),.agg (Af (Ax p))] [] (.tuple [.t (QA e q),.t .nilIface]) []:=by
 have iZ:=Adq e q p hs;obtain⟨⟨h1,h2⟩,_⟩:=NK h
 rwa[h1,h2]at iZ
theorem J5 {α β:Type} {f:α->β}: ∀(l:List α) (k:Nat),(l.map f).eraseIdx k=(l.eraseIdx k).map f
 |[],k=>Ac
 |a::r,0=>rfl
 |a::r,k+1=>by simp[J5 r k]
theorem QW (s f:Int) (R E P:List (List T)) (k n m:Nat) (hk:k<E.length) (hn:n=R.length) (hm:m=E.length-1):BG 66 5 R (BG 68 3 (E.eraseIdx k) (.agg [.t (.int .i64 s),.t (.int .i64 f),.row 66 5 0 n,.row 68 3 0 m,.t (.slice .any 4 P)]))=.agg [.t (.int .i64 s),.t (.int .i64 f),.t (.slice .any 5 R),.t (.slice .any 3 (E.eraseIdx k)),.t (.slice .any 4 P)]:=by
 subst hn hm;have h:(E.eraseIdx k).take (E.length-1)=E.eraseIdx k:=QQ (by simp[A68,hk]);have h4:E.length<=(E.eraseIdx k).length+1:=by simp[A68,hk];omega
 have b1:Nat.beq 68 66=false:=rfl;have b2:Nat.beq 66 68=false:=rfl;simp[BG,F6,b1,b2,h,h4]
theorem Arg (e q:Int) (p:Part) (lO:Int) (oC:Bool) (hs:AU p) (eI:Fy e q p=false) (k:Nat) (o:Opn) (hk:p.kI[k]?=some o) (eS:Fx (λo=>decide (o.lO=lO)) p.kI=(k:Int)) (bG:p.kI.any (λo=>decide (o.lO=lO))=true) (dG:o.lO=lO):
  A3z 70 [.t (.int .i8 e),.t (.int .i64 q),.agg (Af (Ax p)),.t (.int .i64 lO),.t (.bool oC)] [] (Aby (FF e p k o oC) (P3 e q o oC)) []:=by
 obtain⟨_,he,hq,eE⟩:=NK eI;have hP:=Ez.1 eE;have dS:=hs;obtain⟨s1,s2,s3,s4⟩:=dS;have iU:=(hP.ook o (Apj hk)).1;have iK:=s3 o (Apj hk);obtain⟨p1,p2⟩:=IH iU;have oG:=CM iU;have mH: ∀b∈o.gG,A4 b=true:=λb hb=>(E2 iU b hb).1;have b0:=hP.b0;have b1:=hP.b1;have b2:=hP.b2;have aC:=(ZH.1 hk).1;have iZ:=Aa4 e q p eI hs;have cown:=Ado p hs;have cf:=Io p.kI lO s2;rw[eS,bG]at cf;have cw:=Z8 (p.kI.map An) k (by simpa using aC) (by simpa using s2);have cc:=Anq p.rA lO s4;have g9:(p.kI.map An)[k]?=some (An o):=C8 hk;have oE:(p.kI.map An)[0+k]?=some (An o):=by rw[Atj];exact g9
 have hw:(e=0/\QA e q=.iface 277 (.agg (BI e q)))\/(e=1/\QA e q=.iface 278 (.agg (BI e q))):=by
  rcases he with rfl|rfl
  ·exact .inl ⟨Y,Y⟩
  ·exact .inr ⟨Y,Y⟩
 rcases hw with⟨bM,hw⟩|⟨bM,hw⟩
 ·rw[hw]at iZ;have cen:=Arj e q he hq o oC p1 p2;have cm:=Ak1 e q;have hW:P3 e q o oC=EV (F5 e q) [Pz o oC]:=by simp[P3,bM]
  rw[hW];generalize EV (F5 e q) [Pz o oC]=W at cen
  cases oC with
  |false=>
   refine yF Tryz.func70 ?_
   repeat'(first|refine BT [] [(28,66),(80,68)] cown ?_|exact Au|refine yC ?_ ?_|refine⟨λh=>?_⟩|refine B5 18 4 ?_|refine FL Ai Y Y Y (J7 Y Y) cf Y Y ?_|refine Cb Ai Y Y Y Y Y Y Y Y (by simpa using aC) Y ?_|refine F8 Ai (e:=An o) Y Y Y Y Y oE Y Y Y ?_|refine BT [(68,1)] [(1,68)] cw ?_|fail)
   refine Ah Y (A3m (A8d (b:=.tuple [BG 66 5 (p.rows.map Aw) (BG 68 3 ((p.kI.map An).eraseIdx k) (.agg [.t (.int .i64 p.vR),.t (.int .i64 (IntKind.i64.wrap (p.fin+1))),.row 66 5 0 (p.rows.map Aw).length,.row 68 3 0 ((p.kI.map An).length-1),.t (.slice .any 4 ((EL p.rA lO).map Ar))])),.t (.slice .any 4 (W.map BE)),.t (.int .i64 0)]) Y ?_));rw[QW _ _ _ _ _ _ _ _ (by simpa using aC) Y Y,A1 Aa Aa];simp[Aby,FF,KK,bM,dG,Ax,Af,J5]
  |true=>
   refine yF Tryz.func70 ?_
   repeat'(first|refine BT [] [(28,66),(80,68)] cown ?_|exact Au|refine yC ?_ ?_|refine⟨λh=>?_⟩|refine B5 18 4 ?_|refine FL Ai Y Y Y (J7 Y Y) cf Y Y ?_|refine Cb Ai Y Y Y Y Y Y Y Y (by simpa using aC) Y ?_|refine F8 Ai (e:=An o) Y Y Y Y Y oE Y Y Y ?_|fail)
   refine Tr.weak (E:=[(3,.t (.int .i64 lO)),(10,.ref 20 0),(11,.t (.slice .any 4 (W.map BE))),(13,.t (.iface 277 (.agg (BI e q)))),(15,.t (.int .i64 k)),(63,.t (.slice .any 5 (o.gG.map Ak))),(64,.t (.int .i64 o.gG.length)),(65,.t (.int .i64 (0:Nat)))]) (S:=[(68,.grow 3 (p.kI.map An)),(66,.grow 5 (p.rows.map Aw)),(20,.cells [.t (.int .i64 p.vR),.t (.int .i64 p.fin),.row 66 5 0 (p.rows.map Aw).length,.row 68 3 0 (p.kI.map An).length,.t (.slice .any 4 (p.rA.map Ar))])]) ?_ (Bb [7,17] (Ag Y Y (Ag Y Y (Ag Y Y (Ag Y Y (Ag Y Y (Ag Y Y (Ag Y (by rw[Ts];rfl) (Ag Y Y A8)))))))) Y);refine A3t Y ?_;refine AW (ι:=Nat) (λj=>j<=o.gG.length) (λj=>[(3,.t (.int .i64 lO)),(10,.ref 20 0),(11,.t (.slice .any 4 (W.map BE))),(13,.t (.iface 277 (.agg (BI e q)))),(15,.t (.int .i64 k)),(63,.t (.slice .any 5 (o.gG.map Ak))),(64,.t (.int .i64 o.gG.length)),(65,.t (.int .i64 j))]) (λj=>[(66,.grow 5 ((p.rows++Cq (o.gG.take j) p.fin).map Aw)),(68,.grow 3 (p.kI.map An)),(20,.cells [.t (.int .i64 p.vR),.t (.int .i64 (p.fin+Ee (o.gG.take j))),.row 66 5 0 ((p.rows++Cq (o.gG.take j) p.fin).map Aw).length,.row 68 3 0 (p.kI.map An).length,.t (.slice .any 4 (p.rA.map Ar))])]) (λj=>o.gG.length-j) 0 Ac ?_ ?_
   ·refine Bb [] Aa6 ?_;simp only[A6t,Cq,Ee,A5u,Int.natCast_zero,Int.add_zero];rfl
   rintro j hj;by_cases dX:j<o.gG.length
   ·have hr:o.gG[j]?=some o.gG[j]:=Kv dX;have pC:=mH o.gG[j] (Agz dX);generalize o.gG[j]=bb at hr pC;have fS:=AB hr;have lX:=Hc (l:=o.gG.take j) λb hb=>mH b (A3c hb);have dY:(o.gG.take j).length<=8:=by rw[A2i];omega
    have s7:=UW p.vR (p.fin+Ee (o.gG.take j)) (p.rows++Cq (o.gG.take j) p.fin) (p.kI.map An) p.rA bb pC Aa Aa (by rw[Xp,Hb];omega)
    repeat'(first|exact Au|refine yC ?_ ?_|refine⟨λh=>?_⟩|refine B5 18 4 ?_|refine BT [(66,3),(68,5),(20,1)] [(3,66),(5,68),(1,20)] s7 ?_|fail)
    refine AM (j+1) dX Aa [19] (Ag Y Y (Ag Y Y (Ag Y Y (Ag Y Y (Ag Y Y (Ag Y Y (Ag Y Y (Ag Y (by rw[A1 Aa Aa];rfl) A8)))))))) ?_;rw[fS,JW,MG,<-A33,A8l,<-A7s];rfl
   ·have jA:j=o.gG.length:=Aa;subst jA;rw[A5o];have lX:=Hc mH
    repeat'(first|exact Au|refine yC ?_ ?_|refine⟨λh=>?_⟩|refine B5 18 4 ?_|refine BT [(68,1)] [(1,68)] cw ?_|fail)
    refine Ah Y (A3m (A8d (b:=.tuple [BG 66 5 ((p.rows++Cq o.gG p.fin).map Aw) (BG 68 3 ((p.kI.map An).eraseIdx k) (.agg [.t (.int .i64 p.vR),.t (.int .i64 (IntKind.i64.wrap ((p.fin+Ee o.gG)+1))),.row 66 5 0 ((p.rows++Cq o.gG p.fin).map Aw).length,.row 68 3 0 ((p.kI.map An).length-1),.t (.slice .any 4 ((EL p.rA lO).map Ar))])),.t (.slice .any 4 (W.map BE)),.t (.int .i64 0)]) Y ?_));rw[QW _ _ _ _ _ _ _ _ (by simpa using aC) Y Y,A1 Aa Aa];simp[Aby,FF,KK,bM,dG,Ax,Af,J5]
 ·subst bM;rw[hw]at iZ;have cen:=Ark q hq o oC iU iK;have cm:=Ak2 1 q;have hW:P3 1 q o oC=Qt q o oC:=by simp[P3]
  rw[hW];generalize Qt q o oC=W at cen
  cases oC with
  |false=>
   refine yF Tryz.func70 ?_
   repeat'(first|refine BT [] [(28,66),(80,68)] cown ?_|exact Au|refine yC ?_ ?_|refine⟨λh=>?_⟩|refine B5 18 4 ?_|refine FL Ai Y Y Y (J7 Y Y) cf Y Y ?_|refine Cb Ai Y Y Y Y Y Y Y Y (by simpa using aC) Y ?_|refine F8 Ai (e:=An o) Y Y Y Y Y oE Y Y Y ?_|refine BT [(68,1)] [(1,68)] cw ?_|fail)
   refine Ah Y (A3m (A8d (b:=.tuple [BG 66 5 (p.rows.map Aw) (BG 68 3 ((p.kI.map An).eraseIdx k) (.agg [.t (.int .i64 p.vR),.t (.int .i64 (IntKind.i64.wrap (p.fin+0))),.row 66 5 0 (p.rows.map Aw).length,.row 68 3 0 ((p.kI.map An).length-1),.t (.slice .any 4 ((EL p.rA lO).map Ar))])),.t (.slice .any 4 (W.map BE)),.t (.int .i64 0)]) Y ?_));rw[QW _ _ _ _ _ _ _ _ (by simpa using aC) Y Y,A1 Aa Aa];simp[Aby,FF,KK,dG,Ax,Af,J5]
  |true=>
   refine yF Tryz.func70 ?_
   repeat'(first|refine BT [] [(28,66),(80,68)] cown ?_|exact Au|refine yC ?_ ?_|refine⟨λh=>?_⟩|refine B5 18 4 ?_|refine FL Ai Y Y Y (J7 Y Y) cf Y Y ?_|refine Cb Ai Y Y Y Y Y Y Y Y (by simpa using aC) Y ?_|refine F8 Ai (e:=An o) Y Y Y Y Y oE Y Y Y ?_|fail)
   refine Tr.weak (E:=[(3,.t (.int .i64 lO)),(10,.ref 20 0),(11,.t (.slice .any 4 (W.map BE))),(13,.t (.iface 278 (.agg (BI 1 q)))),(15,.t (.int .i64 k)),(63,.t (.slice .any 5 (o.gG.map Ak))),(64,.t (.int .i64 o.gG.length)),(65,.t (.int .i64 (0:Nat)))]) (S:=[(68,.grow 3 (p.kI.map An)),(66,.grow 5 (p.rows.map Aw)),(20,.cells [.t (.int .i64 p.vR),.t (.int .i64 p.fin),.row 66 5 0 (p.rows.map Aw).length,.row 68 3 0 (p.kI.map An).length,.t (.slice .any 4 (p.rA.map Ar))])]) ?_ (Bb [7,17] (Ag Y Y (Ag Y Y (Ag Y Y (Ag Y Y (Ag Y Y (Ag Y Y (Ag Y (by rw[Ts];rfl) (Ag Y Y A8)))))))) Y);refine A3t Y ?_;refine AW (ι:=Nat) (λj=>j<=o.gG.length) (λj=>[(3,.t (.int .i64 lO)),(10,.ref 20 0),(11,.t (.slice .any 4 (W.map BE))),(13,.t (.iface 278 (.agg (BI 1 q)))),(15,.t (.int .i64 k)),(63,.t (.slice .any 5 (o.gG.map Ak))),(64,.t (.int .i64 o.gG.length)),(65,.t (.int .i64 j))]) (λj=>[(66,.grow 5 ((p.rows++Cq (o.gG.take j) p.fin).map Aw)),(68,.grow 3 (p.kI.map An)),(20,.cells [.t (.int .i64 p.vR),.t (.int .i64 (p.fin+Ee (o.gG.take j))),.row 66 5 0 ((p.rows++Cq (o.gG.take j) p.fin).map Aw).length,.row 68 3 0 (p.kI.map An).length,.t (.slice .any 4 (p.rA.map Ar))])]) (λj=>o.gG.length-j) 0 Ac ?_ ?_
   ·refine Bb [] Aa6 ?_;simp only[A6t,Cq,Ee,A5u,Int.natCast_zero,Int.add_zero];rfl
   rintro j hj;by_cases dX:j<o.gG.length
   ·have hr:o.gG[j]?=some o.gG[j]:=Kv dX;have pC:=mH o.gG[j] (Agz dX);generalize o.gG[j]=bb at hr pC;have fS:=AB hr;have lX:=Hc (l:=o.gG.take j) λb hb=>mH b (A3c hb);have dY:(o.gG.take j).length<=8:=by rw[A2i];omega
    have s7:=UW p.vR (p.fin+Ee (o.gG.take j)) (p.rows++Cq (o.gG.take j) p.fin) (p.kI.map An) p.rA bb pC Aa Aa (by rw[Xp,Hb];omega)
    repeat'(first|exact Au|refine yC ?_ ?_|refine⟨λh=>?_⟩|refine B5 18 4 ?_|refine BT [(66,3),(68,5),(20,1)] [(3,66),(5,68),(1,20)] s7 ?_|fail)
    refine AM (j+1) dX Aa [19] (Ag Y Y (Ag Y Y (Ag Y Y (Ag Y Y (Ag Y Y (Ag Y Y (Ag Y Y (Ag Y (by rw[A1 Aa Aa];rfl) A8)))))))) ?_;rw[fS,JW,MG,<-A33,A8l,<-A7s];rfl
   ·have jA:j=o.gG.length:=Aa;subst jA;rw[A5o];have lX:=Hc mH
    repeat'(first|exact Au|refine yC ?_ ?_|refine⟨λh=>?_⟩|refine B5 18 4 ?_|refine BT [(68,1)] [(1,68)] cw ?_|fail)
    refine Ah Y (A3m (A8d (b:=.tuple [BG 66 5 ((p.rows++Cq o.gG p.fin).map Aw) (BG 68 3 ((p.kI.map An).eraseIdx k) (.agg [.t (.int .i64 p.vR),.t (.int .i64 (IntKind.i64.wrap ((p.fin+Ee o.gG)+0))),.row 66 5 0 ((p.rows++Cq o.gG p.fin).map Aw).length,.row 68 3 0 ((p.kI.map An).length-1),.t (.slice .any 4 ((EL p.rA lO).map Ar))])),.t (.slice .any 4 (W.map BE)),.t (.int .i64 0)]) Y ?_));rw[QW _ _ _ _ _ _ _ _ (by simpa using aC) Y Y,A1 Aa Aa];simp[Aby,FF,KK,dG,Ax,Af,J5]
theorem Arh (e q:Int) (p:Part) (lO:Int) (oC:Bool) (hs:AU p) (eI:Fy e q p=false) (bG:p.kI.any (λo=>decide (o.lO=lO))=false):
  A3z 70 [.t (.int .i8 e),.t (.int .i64 q),.agg (Af (Ax p)),.t (.int .i64 lO),.t (.bool oC)] [] (Aby p []) []:=by
 have dS:=hs;obtain⟨s1,s2,s3,s4⟩:=dS;have iZ:=Aa4 e q p eI hs;have cown:=Ado p hs;have cf:=Io p.kI lO s2;rw[bG]at cf;refine yF Tryz.func70 ?_
 repeat'(first|refine BT [] [(28,66),(80,68)] cown ?_|exact Au|refine yC ?_ ?_|refine⟨λh=>?_⟩|refine B5 18 4 ?_|refine FL Ai Y Y Y (J7 Y Y) cf Y Y ?_|fail)
 refine Ah Y (As ⟨A3m (A8d (b:=BG 66 5 (p.rows.map Aw) (BG 68 3 (p.kI.map An) (.agg [.t (.int .i64 p.vR),.t (.int .i64 p.fin),.row 66 5 0 (p.rows.map Aw).length,.row 68 3 0 (p.kI.map An).length,.t (.slice .any 4 (p.rA.map Ar))]))) Y ?_),Ay,A3l _,trivial⟩);have b1:Nat.beq 68 66=false:=rfl;have b2:Nat.beq 66 68=false:=rfl;have t1:(p.rows.map Aw).take p.rows.length=p.rows.map Aw:=QQ Ac;have t2:(p.kI.map An).take p.kI.length=p.kI.map An:=QQ Ac;simp[Aby,Ax,Af,BG,F6,b1,b2,t1,t2]
structure EO where
 part:Part
 w:List Wr
 e:Int
def EO.av (r:EO):AV:=.tuple [.agg (Af (Ax r.part)),.t (.slice .any 4 (r.w.map BE)),.t (.int .i64 r.e)]
def Mn (e q:Int) (p:Part) (lO:Int) (oC:Bool):EO:=
 if Fy e q p=true then⟨EW,[],2⟩
 else match p.kI.find? (λo=>decide (o.lO=lO))with
  |none=>⟨p,[],0⟩
  |some o=>⟨FF e p (Fx (λo=>decide (o.lO=lO)) p.kI).toNat o oC,P3 e q o oC,0⟩
theorem Avw (e q:Int) (p:Part) (lO:Int) (oC:Bool) (hs:AU p):
  A3z 70 [.t (.int .i8 e),.t (.int .i64 q),.agg (Af (Ax p)),.t (.int .i64 lO),.t (.bool oC)] [] (Mn e q p lO oC).av []:=by
 cases aR:Fy e q p with
 |true=>
  have iZ:=Adq e q p hs;obtain⟨h1,s,h2⟩:=Aa3 aR;have hr:Mn e q p lO oC=⟨EW,[],2⟩:=by simp[Mn,aR]
  rw[hr];rw[h1,h2]at iZ;refine yF Tryz.func70 ?_
  repeat'(first|exact Au|refine yC ?_ ?_|refine⟨λh=>?_⟩|refine B5 18 4 ?_|refine BZ (Ip s 2) ?_|fail)
  exact Ah Y (As ⟨Ih,Ay,A3l _,trivial⟩)
 |false=>
  cases hf:p.kI.find? (λo=>decide (o.lO=lO))with
  |none=>
   have hr:Mn e q p lO oC=⟨p,[],0⟩:=by simp[Mn,aR,hf]
   rw[hr]
   have cH:p.kI.any (λo=>decide (o.lO=lO))=false:=by
    rw[A4u];intro o ho;simpa using A5i.1 hf o ho
   exact Arh e q p lO oC hs aR cH
  |some o=>
   obtain⟨k,hk,eS,bG⟩:=Lx hf;have dG:o.lO=lO:=by simpa using A6d hf
   have hr:Mn e q p lO oC=⟨FF e p k o oC,P3 e q o oC,0⟩:=by simp[Mn,aR,hf,eS]
   rw[hr];exact Arg e q p lO oC hs aR k o hk eS bG dG
theorem Afb (bH:Nat) (cap:List T) (n k:Nat) (hn:n<=1000000000) (hk:k<=n) (hf: ∀i:Nat,i<n->A3z bH (.t (.int .i64 i)::Af cap) [] (.t (.bool (decide (k<=i)))) []) (e6:ED (Af cap)=true):
  A3z 238 [.t (.int .i64 n),.t (.func (.func bH) [] cap)] [] (.t (.int .i64 k)) []:=by
 refine yF Tryz.func238 ?_
 repeat'(first|exact Au|refine yC ?_ ?_|refine⟨λh=>?_⟩|fail)
 refine AW (ι:=Nat×Nat) (λx=>x.1<=k/\k<=x.2/\x.2<=n) (λx=>[(1,.t (.func (.func bH) [] cap)),(5,.t (.int .i64 x.1)),(6,.t (.int .i64 x.2))]) (λ_=>[]) (λx=>x.2-x.1) (0,n) ⟨Aa,hk,Aa⟩ ?_ ?_
 ·exact Bb [] Aa6 Y
 rintro⟨i,j⟩ ⟨h1,h2,h3⟩;simp only at h1 h2 h3;by_cases aC:i<j
 ·have hw:IntKind.i64.wrap ((i:Int)+j)=((i+j:Nat):Int):=by rw[A1 Aa Aa];rfl
  have hc:=hf ((i+j)/2) Aa
  have hX:IntKind.i64.wrap ((IntKind.u64.wrap (IntKind.i64.wrap ((i:Int)+j))).fdiv (2^min (Int.toNat 1) IntKind.u64.bits))=(((i+j)/2:Nat):Int):=by
   rw[hw]
   have hu:IntKind.u64.wrap ((i+j:Nat):Int)=((i+j:Nat):Int):=by
    show((i+j:Nat):Int) % (2^64)=_;omega
   have hm:(2:Int)^min (Int.toNat 1) IntKind.u64.bits=2:=rfl;rw[hu,hm,Int.fdiv_eq_ediv_of_nonneg _ Aa,A1 Aa Aa];omega
  rw[<-hX]at hc;have hX2:IntKind.i64.wrap ((((i+j)/2:Nat):Int)+1)=(((i+j)/2+1:Nat):Int):=by rw[A1 Aa Aa];rfl
  repeat'(first|exact Au|refine yC ?_ ?_|refine⟨λh=>?_⟩|refine Ji Ai Y Y Y Y Y Y e6 hc Y Y ?_|fail)
  ·refine AM ((i+j)/2+1,j) ⟨by simp at*;omega,h2,h3⟩ (by simp;omega) [] (Ag Y Y (Ag Y (by rw[hX,hX2]) Aa6)) Y
  ·refine AM (i,(i+j)/2) ⟨h1,by simp at*;omega,by simp;omega⟩ (by simp;omega) [] (Ag Y Y (Ag Y Y (Ag Y (by rw[hX]) A8))) Y
 ·repeat'(first|exact Au|refine yC ?_ ?_|refine⟨λh=>?_⟩|fail)
  have he:i=k:=Aa;exact Ah Y (A3m (by rw[he]))
theorem Vh (n:Int): ∀{l:List Row},Ju Row.offset l-> ∃k,k<=l.length/\(∀i r,l[i]?=some r->(k<=i↔n<=r.offset))/\l.drop k=l.filter (λr=>decide (n<=r.offset))
 |[],_=>⟨0,WW _,λi r h=>by simp at h,Y⟩
 |a::t,h=>by
  obtain⟨h1,h2⟩:=A2x.1 h;by_cases hn:n<=a.offset
  ·refine⟨0,A5t _,λi r hr=>?_,?_⟩
   ·have:r∈a::t:=Apj hr;rcases Als.1 this with rfl|hm
    ·simp[hn]
    ·have:=h1 r hm;simp;omega
   ·rw[A8q,A6z.2];intro r hr;rcases Als.1 hr with rfl|hm
    ·simpa using hn
    ·have:=h1 r hm;simp;omega
  ·obtain⟨k,q1,q2,q3⟩:=Vh n h2;refine⟨k+1,by simp;omega,λi r hr=>?_,?_⟩
   ·cases i with
    |zero=>simp at hr;subst hr;simp;omega
    |succ i=>simp at hr;rw[<-q2 i r hr];omega
   ·rw[List.filter_cons_of_neg (by simpa using hn),<-q3];rfl
theorem Al9 (p:Part) (n:Int) (i:Nat) (r:Row) (hr:p.rows[i]?=some r):A3z 239 (.t (.int .i64 i)::Af [.ptr (Ax p),.ptr [.int .i64 n]]) [] (.t (.bool (decide (r.offset>=n)))) []:=by
 refine yF Tryz.func239 ?_
 repeat'(first|exact Au|refine yC ?_ ?_|refine⟨λh=>?_⟩|refine B5 1 7 ?_|fail)
 exact Ah Y (A3l _)
theorem QU (p:Part) (n:Int) (hs:p.rows.length<=1000000) (fI:Ju Row.offset p.rows):A3z 190 [.agg (Af (Ax p)),.t (.int .i64 n)] [] (.t (.slice .any 5 ((p.rows.filter (λr=>decide (n<=r.offset))).map Aw))) []:=by
 obtain⟨k,q1,q2,q3⟩:=Vh n fI
 have cs:=Afb 239 [.ptr (Ax p),.ptr [.int .i64 n]] p.rows.length k Aa q1 (λi hi=>by
  have hr:p.rows[i]?=some p.rows[i]:=Kv hi;have:=Al9 p n i _ hr
  rwa[show decide (p.rows[i].offset>=n)=decide (k<=i)from A7c.2 (q2 i _ hr).symm]at this) Y
 have aQ:(p.rows.map Aw).length=p.rows.length:=Ts ..;rw[<-aQ]at cs;refine yF Tryz.func190 ?_;refine HA ?_;refine Jx Ai Y Y ?_
 repeat'(first|exact Au|refine yA ?_ ?_|refine⟨λh=>?_⟩|fail)
 refine A3q (cs:=Ax p) 2 4 Y Y Y Y ?_;refine A3q (cs:=[.int .i64 n]) 3 6 Y Y Y Y ?_
 repeat'(first|exact Au|refine yC ?_ ?_|refine⟨λh=>?_⟩|refine BZ cs ?_|refine HL Ai (l:=k) (h:=(p.rows.map Aw).length) Y Y Y Y Y Y (Di Y Y) (Di Y Y) (WW _) Aa (.inr ⟨Y,Y,Di Y Y,Y⟩) (show _=(p.rows.drop k).map Aw by rw[<-A7r,QQ Ac]) Y ?_|fail)
 exact Ah Y (by rw[q3];exact A9)
def Lg (p:Part) (n:Int):T:=if n<p.vR\/p.fin<n then Co 220 [97,32,112,108,97,99,101] 130 else .nilIface
theorem NE (p:Part) (n:Int) (hp:EU p=true) (h1:p.rows.length<=1000000000) (h2:p.kI.length<=1000000000):A3z 122 [.agg (Af (Ax p)),.t (.int .i64 n)] [] (.t (Lg p n)) []:=by
 have cc:=RM p h1 h2;rw[show PC p=.nilIface by simp[PC,hp]]at cc;refine yF Tryz.func122 ?_
 repeat'(first|exact Au|refine yC ?_ ?_|refine⟨λh=>?_⟩|fail)
 all_goals refine Ah Y (A3m ?_)
 all_goals try simp only[Uj,A7h,ge_iff_le,gt_iff_lt]at*
 all_goals first
  |(rw[show Lg p n=_ from WU Aa];done)
  |(rw[show Lg p n=_ from WU Aa];rfl)
  |(rw[show Lg p n=_ from Ug Aa])
def SJ (p:Part) (n:Int):Part:=⟨n,p.fin,p.rows.filter (λr=>decide (n<=r.offset)),p.kI,p.rA⟩
theorem Ap1 (p:Part) (n:Int) (hs:AU p) (hp:EU p=true) (fI:Ju Row.offset p.rows) (cK:p.vR<=n/\n<=p.fin):A3z 125 [.agg (Af (Ax p)),.t (.int .i64 n)] [] (.tuple [.agg (Af (Ax (SJ p n))),.t (.int .i64 0)]) []:=by
 obtain⟨h1,h2,h3,h4,h5⟩:=hs;have cpl:=NE p n hp Aa Aa;rw[show Lg p n=.nilIface from Ug Aa]at cpl;have cfr:=QU p n h1 fI;have eK:(p.rows.filter (λr=>decide (n<=r.offset))).length<=1000000:=A47 (A65 ..) h1;have cro:=L6 _ eK;have eT:(p.kI.map An).length=p.kI.length:=Ts ..;have pE:(p.rA.map Ar).length=p.rA.length:=Ts ..;refine yF Tryz.func125 ?_
 repeat'(first|exact Au|refine yC ?_ ?_|refine⟨λh=>?_⟩|refine B5 4 9 ?_|fail)
 refine A3s 14 4 80 4 Y Y Y ?_;refine A3s 14 3 62 3 Y Y Y ?_
 refine AW (ι:=Nat) (λi=>i<=p.kI.length) (λi=>[(2,.ref 4 0),(4,.ref 8 0),(7,.ref 14 0),(32,.t (.slice .any 3 (p.kI.map An))),(33,.t (.int .i64 ((p.kI.map An).length:Int))),(34,.t (.int .i64 i))])
  (λi=>[(124,.grow 3 ((p.kI.take i).map An)),(160,.grow 4 []),(14,.cells [.t (.int .i64 n),.t (.int .i64 p.fin),.t (.slice .any 5 ((p.rows.filter (λr=>decide (n<=r.offset))).map Aw)),.row 124 3 0 ((p.kI.take i).map An).length,.row 160 4 0 0]),(8,.cells (Af Mi.zero)),(4,.cells (Af (Ax p)))]) (λi=>p.kI.length-i) 0 Ac ?_ ?_
 ·exact Bb [] Aa6 Y
 rintro i hi;by_cases aC:i<p.kI.length
 ·have hr:p.kI[i]?=some p.kI[i]:=Kv aC;have cA:=h3 p.kI[i] (Agz aC);generalize p.kI[i]=o at hr cA;have aQ:(o.gG.map Ak).length=o.gG.length:=Ts ..;have cC:=cA.1
  repeat'(first|exact Au|refine yC ?_ ?_|refine⟨λh=>?_⟩|refine B5 4 9 ?_|fail)
  refine A3s 18 2 55 5 Y Y Y ?_
  refine AW (ι:=Nat) (λj=>j<=o.gG.length) (λj=>[(2,.ref 4 0),(4,.ref 8 0),(7,.ref 14 0),(9,.ref 18 0),(32,.t (.slice .any 3 (p.kI.map An))),(33,.t (.int .i64 ((p.kI.map An).length:Int))),(34,.t (.int .i64 i)),(41,.t (.slice .any 5 (o.gG.map Ak))),(42,.t (.int .i64 ((o.gG.map Ak).length:Int))),(43,.t (.int .i64 j))])
   (λj=>[(110,.grow 5 ((o.gG.take j).map Ak)),(18,.cells [.t (.int .i64 o.lO),.t (.int .i64 o.lT),.row 110 5 0 ((o.gG.take j).map Ak).length]),(124,.grow 3 ((p.kI.take i).map An)),(160,.grow 4 []),(14,.cells [.t (.int .i64 n),.t (.int .i64 p.fin),.t (.slice .any 5 ((p.rows.filter (λr=>decide (n<=r.offset))).map Aw)),.row 124 3 0 ((p.kI.take i).map An).length,.row 160 4 0 0]),(8,.cells (Af Mi.zero)),(4,.cells (Af (Ax p)))]) (λj=>o.gG.length-j) 0 Ac ?_ ?_
  ·exact Bb [] Aa6 Y
  rintro j hj;by_cases eR:j<o.gG.length
  ·have gV:o.gG[j]?=some o.gG[j]:=Kv eR;have kV:=cA.2 o.gG[j] (Agz eR);generalize o.gG[j]=b at gV kV
   repeat'(first|exact Au|refine yC ?_ ?_|refine⟨λh=>?_⟩|refine B5 4 9 ?_|refine BZ (Ot b.rZ kV) ?_|fail)
   refine AM (j+1) eR Aa [12] (Ag Y Y (Ag Y Y (Ag Y Y (Ag Y Y (Ag Y Y (Ag Y Y (Ag Y Y (Ag Y Y (Ag Y Y (Ag Y (by rw[A1 Aa Aa];rfl) A8)))))))))) ?_;have ht:(o.gG.take (j+1)).map Ak=(o.gG.take j).map Ak++[Ak b]:=by rw[AB gV];simp
   rw[ht];rfl
  ·have sO:o.gG.take j=o.gG:=QQ Aa;rw[sO]
   have dV:BG 110 5 (o.gG.map Ak) (.agg [.t (.int .i64 o.lO),.t (.int .i64 o.lT),.row 110 5 0 (o.gG.map Ak).length])=.agg (Af (An o)):=by
    have t1:(o.gG.map Ak).take o.gG.length=o.gG.map Ak:=QQ Ac;simp[BG,F6,An,Af,t1]
   repeat'(first|exact Au|refine yC ?_ ?_|refine⟨λh=>?_⟩|refine B5 4 9 ?_|refine FA 60 110 Y Y Y dV ?_|fail)
   refine AM (i+1) aC Aa [9] (Ag Y Y (Ag Y Y (Ag Y Y (Ag Y Y (Ag Y Y (Ag Y (by rw[A1 Aa Aa];rfl) A8)))))) ?_;have ht:(p.kI.take (i+1)).map An=(p.kI.take i).map An++[An o]:=by rw[AB hr];simp
   rw[ht];rfl
 ·repeat'(first|exact Au|refine yC ?_ ?_|refine⟨λh=>?_⟩|refine B5 4 9 ?_|fail)
  have rE:p.kI.take i=p.kI:=QQ Aa;rw[rE];refine A3t Y ?_
  refine AW (ι:=Nat) (λi=>i<=p.rA.length) (λi=>[(4,.ref 8 0),(7,.ref 14 0),(66,.t (.slice .any 4 (p.rA.map Ar))),(67,.t (.int .i64 ((p.rA.map Ar).length:Int))),(68,.t (.int .i64 i))])
   (λi=>[(160,.grow 4 ((p.rA.take i).map Ar)),(124,.grow 3 (p.kI.map An)),(14,.cells [.t (.int .i64 n),.t (.int .i64 p.fin),.t (.slice .any 5 ((p.rows.filter (λr=>decide (n<=r.offset))).map Aw)),.row 124 3 0 (p.kI.map An).length,.row 160 4 0 ((p.rA.take i).map Ar).length]),(8,.cells (Af Mi.zero)),(4,.cells (Af (Ax p)))]) (λi=>p.rA.length-i) 0 Ac ?_ ?_
  ·exact Bb [] Aa6 Y
  rintro j hj;by_cases eR:j<p.rA.length
  ·have hr:p.rA[j]?=some p.rA[j]:=Kv eR;have cA:=h5 p.rA[j] (Agz eR);generalize p.rA[j]=r at hr cA
   repeat'(first|exact Au|refine yC ?_ ?_|refine⟨λh=>?_⟩|refine B5 4 9 ?_|refine BZ (HZ r.s9 cA) ?_|fail)
   refine AM (j+1) eR Aa [14] (Ag Y Y (Ag Y Y (Ag Y Y (Ag Y Y (Ag Y (by rw[A1 Aa Aa];rfl) A8))))) ?_;have ht:(p.rA.take (j+1)).map Ar=(p.rA.take j).map Ar++[Ar r]:=by rw[AB hr];simp
   rw[ht];rfl
  ·repeat'(first|exact Au|refine yC ?_ ?_|refine⟨λh=>?_⟩|refine B5 4 9 ?_|fail)
   have mW:p.rA.take j=p.rA:=QQ Aa;rw[mW];refine Ah Y (A3m (A8d (b:=.tuple [BG 124 3 (p.kI.map An) (BG 160 4 (p.rA.map Ar) (.agg [.t (.int .i64 n),.t (.int .i64 p.fin),.t (.slice .any 5 ((p.rows.filter (λr=>decide (n<=r.offset))).map Aw)),.row 124 3 0 (p.kI.map An).length,.row 160 4 0 (p.rA.map Ar).length])),.t (.int .i64 0)]) Y ?_));have b1:Nat.beq 124 160=false:=rfl;have b2:Nat.beq 160 124=false:=rfl;have t1:(p.kI.map An).take p.kI.length=p.kI.map An:=QQ Ac;have t2:(p.rA.map Ar).take p.rA.length=p.rA.map Ar:=QQ Ac;simp[BG,F6,Ax,SJ,Af,b1,b2,t1,t2]
def Q7 (n:Int):Entry:={kind:=2,b:=⟨0,0,0,false,[]⟩,oC:=false,next:=0,offset:=n,row:=⟨0,0,0,[],[]⟩,vM:=EB}
theorem Amv {n:Int} (h1:0<=n) (h2:n<=1048576):Cs (Q7 n)=true:=by
 have hb:DV (Q7 n)=true:=by simp[DV,IK,Q7,KH,EB]
 simp only[Cs,hb,A5a];simp[Q7,h1,h2]
theorem Aag (p:Part) (n:Int) (hs:AU p) (hp:EU p=true) (cK:n<p.vR\/p.fin<n):A3z 125 [.agg (Af (Ax p)),.t (.int .i64 n)] [] (.tuple [.agg (Af (Ax EW)),.t (.int .i64 130)]) []:=by
 obtain⟨h1,h2,h3,h4,h5⟩:=hs;have cpl:=NE p n hp Aa Aa;rw[show Lg p n=Co 220 [97,32,112,108,97,99,101] 130 from WU cK]at cpl;refine yF Tryz.func125 ?_
 repeat'(first|exact Au|refine yC ?_ ?_|refine⟨λh=>?_⟩|refine B5 4 9 ?_|refine BZ (OC [97,32,112,108,97,99,101] 130) ?_|fail)
 exact Ah Y (As ⟨Ih,A3l _,trivial⟩)
def Q9 (e q:Int) (p:Part) (n:Int):EO:=
 if Fy e q p=true then⟨EW,[],2⟩
 else if n<p.vR\/p.fin<n then⟨EW,[],130⟩
 else⟨SJ p n,EV (F5 e q) [Q7 n],0⟩
theorem Avy (e q:Int) (p:Part) (n:Int) (hs:AU p):A3z 84 [.t (.int .i8 e),.t (.int .i64 q),.agg (Af (Ax p)),.t (.int .i64 n)] [] (Q9 e q p n).av []:=by
 cases aR:Fy e q p with
 |true=>
  have iZ:=Adq e q p hs;obtain⟨h1,s,h2⟩:=Aa3 aR;have hr:Q9 e q p n=⟨EW,[],2⟩:=by simp[Q9,aR]
  rw[hr];rw[h1,h2]at iZ;refine yF Tryz.func84 ?_
  repeat'(first|exact Au|refine yC ?_ ?_|refine⟨λh=>?_⟩|refine BZ (Ip s 2) ?_|fail)
  exact Ah Y (As ⟨Ih,Ay,A3l _,trivial⟩)
 |false=>
  have iZ:=Aa4 e q p aR hs;obtain⟨_,he,hq,eE⟩:=NK aR;have hP:=Ez.1 eE
  have fT:EU p=true:=by
   have h:=eE;simp only[BU,HW,Qp]at h;exact h.1.1
  by_cases cK:n<p.vR\/p.fin<n
  ·have hr:Q9 e q p n=⟨EW,[],130⟩:=by simp[Q9,aR,cK]
   rw[hr];have cc:=Aag p n hs fT cK;refine yF Tryz.func84 ?_
   repeat'(first|exact Au|refine yC ?_ ?_|refine⟨λh=>?_⟩|fail)
   exact Ah Y (As ⟨Ih,Ay,A3l _,trivial⟩)
  ·have hr:Q9 e q p n=⟨SJ p n,EV (F5 e q) [Q7 n],0⟩:=by simp[Q9,aR,cK]
   rw[hr];have cc:=Ap1 p n hs fT hP.srt Aa;have b0:=hP.b0;have b2:=hP.b2;have hm:=Amv (n:=n) Aa Aa;have ep:=On (F5 e q) [Q7 n] Ac (by simp[F2,Q7,EB]);rw[show Tx [Q7 n]=0 by simp[Tx,hm],show RN (F5 e q) [Q7 n]=EV (F5 e q) [Q7 n]by simp[RN,hm]]at ep;have cl:=Iv e q he hq
   have hw:(e=0/\QA e q=.iface 277 (.agg (BI e q)))\/(e=1/\QA e q=.iface 278 (.agg (BI e q))):=by
    rcases he with rfl|rfl
    ·exact .inl ⟨Y,Y⟩
    ·exact .inr ⟨Y,Y⟩
   rcases hw with⟨bM,hw⟩|⟨bM,hw⟩
   ·rw[hw]at iZ;refine yF Tryz.func84 ?_
    repeat'(first|exact Au|refine yC ?_ ?_|refine⟨λh=>?_⟩|refine CO Ai Y Y Y Y ep Y Y Y ⟨A3l _,Jk ⟨⟨A3u _,A3u _,A3u _,A3u _,A3u _,AD.nil,A3u _,A3u _,A3u _,A3u _,A3u _,A3u _,A3u _,A3u _,A3u _,A3u _,A3u _,AD.nil,trivial⟩,trivial⟩,trivial⟩ ?_|fail)
    exact Ah Y (A3l _)
   ·rw[hw]at iZ;refine yF Tryz.func84 ?_
    repeat'(first|exact Au|refine yC ?_ ?_|refine⟨λh=>?_⟩|refine CO Ai Y Y Y Y ep Y Y Y ⟨A3l _,Jk ⟨⟨A3u _,A3u _,A3u _,A3u _,A3u _,AD.nil,A3u _,A3u _,A3u _,A3u _,A3u _,A3u _,A3u _,A3u _,A3u _,A3u _,A3u _,AD.nil,trivial⟩,trivial⟩,trivial⟩ ?_|fail)
    exact Ah Y (A3l _)
structure Act2 where
 kind:Int
 b:Batch
 lO:Int
 oC:Bool
 to:Int
def Rg (a:Act2):Batch:={a.b with vV:=decide (a.b.lO<=5)}
def JH (e:Int) (p:Part) (a:Act2):PO:=
 if a.kind=0 then(if(Aa5 e 1 p (Rg a)).e≠0 then⟨p,0,[],(Aa5 e 1 p (Rg a)).e⟩else Aa5 e 1 p (Rg a))
 else if a.kind=1 then(if(Mn e 1 p a.lO a.oC).e≠0 then⟨p,0,[],(Mn e 1 p a.lO a.oC).e⟩else⟨(Mn e 1 p a.lO a.oC).part,0,(Mn e 1 p a.lO a.oC).w,(Mn e 1 p a.lO a.oC).e⟩)
 else if a.kind=2 then(if(Q9 e 1 p a.to).e≠0 then⟨p,0,[],(Q9 e 1 p a.to).e⟩else⟨(Q9 e 1 p a.to).part,0,(Q9 e 1 p a.to).w,(Q9 e 1 p a.to).e⟩)
 else⟨p,0,[],0⟩
structure TwiceLaw (e:Int) (l:List Act2) (Q:Nat->Part->Prop):Prop where
 zero:Q 0 EW
 vS: ∀{i:Nat} {p:Part},Q i p->AU p
 rZ: ∀{i:Nat} {a:Act2},l[i]?=some a->a.b.rZ.length<=1000000
 step: ∀{i:Nat} {p:Part} {a:Act2},Q i p->l[i]?=some a->Q (i+1) (JH e p a).part
 again: ∀{i:Nat} {p:Part} {a:Act2},Q i p->l[i]?=some a->(JH e p a).e=0->a.kind<2->(JH e (JH e p a).part a).e=0/\(JH e (JH e p a).part a).part=(JH e p a).part/\(JH e (JH e p a).part a).w=[]/\(a.kind=0->(JH e (JH e p a).part a).s6=(JH e p a).s6)
 told: ∀{i:Nat} {p:Part} {a:Act2},Q i p->l[i]?=some a->(JH e p a).e=0->a.kind=0->(JH e p a).w≠[]->H6 (JH e p a).part.rA a.b.lO=true/\((BK (JH e p a).part.rA a.b.lO).next=IntKind.i64.wrap (a.b.seq+((a.b.rZ.map AX).length:Int)))/\(BK (JH e p a).part.rA a.b.lO).s9≠[]
end Go.Proofs.YtppffhlbcgpgdaaGreatDoor
namespace Go.Proofs.YtppffhlbcgpgdaaGreatDoor
open Go.Am
attribute [local irreducible] Decidable.decide
theorem A3g {l:List Prod} {b:Batch} (hl:EN l=true) (hb:A4 b=true) (hc:C6 l b=0) (hi:Ff l b=false): ∀s∈NW l b,KC b s=false:=by
 obtain⟨h1,h2⟩:=As7 hl hb;rw[h1]at hc;rw[h2]at hi;intro s hs;unfold NW at hs;split at hs
 ·simp at hs
 ·rename_i he;have he:(BK l b.lO).lT=b.lT:=A34.1 he
  cases hh:H6 l b.lO with
  |false=>rw[Al3 hh]at hs;simp[EB]at hs
  |true=>
   have jK:K1 l b=BK l b.lO:=by simp[K1,hh,he]
   have hf:Gx l b=false:=by simp[Gx,hh,he]
   have ha:(K1 l b).s9.any (KC b)=false:=by simpa[Mw,hf]using hi
   rw[jK]at ha
   simpa using A4u.1 ha s hs
theorem Av1 {l:List Prod} {b:Batch} {s6:Int} (hl:EN l=true) (hb:A4 b=true) (hc:C6 l b=0) (hi:Ff l b=false) (fY: -1<=s6/\s6<=1048576):C6 (O8 l (Gh l b s6)) b=0/\Ff (O8 l (Gh l b s6)) b=true/\L8 (O8 l (Gh l b s6)) b=s6:=by
 have cH:=A3g hl hb hc hi;have cX:=UA hl (Yo hl hb hc hi fY);have hf:=OZ (p:=Gh l b s6) hl b.lO;rw[WU (show(Gh l b s6).lO=b.lO from rfl)]at hf;have hh:H6 (O8 l (Gh l b s6)) b.lO=true:=by rw[S4 hl];simp[Gh]
 have e1:(Gh l b s6).lT=b.lT:=rfl;have jK:K1 (O8 l (Gh l b s6)) b=Gh l b s6:=by simp[K1,hh,hf,e1]
 have sX:Gx (O8 l (Gh l b s6)) b=false:=by simp[Gx,hf,e1]
 have vK:(Gh l b s6).s9.find? (KC b)=some ⟨b.seq,b.rZ.length,s6⟩:=by
  simp only[Gh,Z9];rw[A8o Ac,List.find?_append];rw[A5i.2 (λs hs=>by rw[cH s (A6k hs)];simp)];simp[KC]
 have bG:(Gh l b s6).s9.any (KC b)=true:=A6s.2 ⟨_,A40 vK,A6d vK⟩;obtain⟨h1,h2⟩:=As7 cX hb;refine⟨?_,?_,?_⟩
 ·rw[h1];simp[GJ,sX,jK,bG]
 ·rw[h2];simp[Mw,sX,jK,bG]
 ·simp[L8,SP,cX,hb,Md,jK,bG,vK,sX]
theorem Av0 {e q:Int} {p p':Part} (h:Fy e q p=false) (hp:POk p'):Fy e q p'=false:=by
 have h2:=Ez.2 hp;simp only[Fy,A7n,Bool.not_eq_false']at h⊢;exact⟨h.1,h2,h.2.2⟩
theorem Auh {p:Part} {b:Batch} (h:POk p) (hb:A4 b=true) (hc:C6 p.rA b=0) (hi:Ff p.rA b=false) (hr:KX p b=none):POk (I0 p b):=by
 cases ht:b.vV with
 |true=>rw[show I0 p b=O3 p b by simp[I0,ht]];exact Att h hb hc hi ht (J1 hr)
 |false=>rw[show I0 p b=EH p b by simp[I0,ht]];exact Aki h hb hc hi ht (J1 hr)
theorem A05 {p:Part} {b:Batch} (h:POk p) (hc:C6 p.rA b=0) (hi:Ff p.rA b=false):(I0 p b).rA=O8 p.rA (Gh p.rA b (As8 p b))/\ -1<=As8 p b/\As8 p b<=1048576:=by
 have h0:=h.b0;have h1:=h.b1;have h2:=h.b2
 cases ht:b.vV with
 |true=>
  rw[show As8 p b= -1 by simp[As8,ht]];refine⟨?_,Aa,Aa⟩;rw[<-Rn hc hi (s6:= -1) ⟨Aa,Aa⟩];simp[I0,ht,O3]
 |false=>
  rw[show As8 p b=p.fin by simp[As8,ht]];refine⟨?_,Aa,Aa⟩;rw[<-Rn hc hi (s6:=p.fin) ⟨Aa,Aa⟩];simp[I0,ht,EH]
theorem Azp {e q:Int} {p:Part} {b:Batch} (h:(Aa5 e q p b).e=0):Aa5 e q (Aa5 e q p b).part b=⟨(Aa5 e q p b).part,(Aa5 e q p b).s6,[],0⟩:=by
 obtain⟨aR,hm,hc,hA⟩:=Ap7 h;have hp:=Ez.1 (NK aR).2.2.2;rcases hA with⟨hi,hP⟩|⟨hi,oU,hP⟩
 ·rw[hP];simp only;rw[hP]
 ·rw[hP];simp only;obtain⟨q1,q2⟩:=A05 hp hc hi;obtain⟨k1,k2,k3⟩:=Av1 hp.vW hm hc hi q2;rw[A28 (Av0 aR (Auh hp hm hc hi oU)) hm (by rw[q1];exact k1),q1,WU k2,k3]
theorem Px {α:Type} {f:α->Int}: ∀{l:List α} {k:Nat} {o x:α},Ju f l->l[k]?=some o->x∈l.eraseIdx k->x∈l/\f x≠f o
 |[],k,o,x,_,h,_=>by simp at h
 |a::r,0,o,x,hs,h,hx=>by
  simp at h;subst h;simp only[List.eraseIdx_cons_zero]at hx;have:=(A2x.1 hs).1 x hx;exact⟨A57 _ hx,Aa⟩
 |a::r,k+1,o,x,hs,h,hx=>by
  simp at h;simp only[List.eraseIdx_cons_succ]at hx;have dS:=A2x.1 hs;rcases Als.1 hx with rfl|hx
  ·have:=dS.1 o (Apj h);exact⟨Ac,Aa⟩
  ·obtain⟨h1,h2⟩:=Px dS.2 h hx;exact⟨A57 _ h1,h2⟩
theorem Uh {α:Type} {f:α->Int} {l:List α} {k:Nat} (h:Ju f l):Ju f (l.eraseIdx k):=A8f (List.eraseIdx_sublist ..) h
theorem Zb {l:List Prod} (hl:EN l=true) (lO:Int):EL l lO=if H6 l lO=true then O8 l {BK l lO with s9:=[]}else l:=by
 have hs:=(EG.1 hl).1
 cases hh:H6 l lO with
 |false=>
  have:l.findIdx? (λx=>decide (x.lO=lO))=none:=by rw[A5e];intro x hx;simpa using A4u.1 hh x hx
  simp[EL,this]
 |true=>
  have hh2:l.any (λp=>decide (p.lO=lO))=true:=hh;obtain⟨i,x,hx,hi,qT,hpx⟩:=LZ hh2;have pS:BK l lO=x:=by simp[BK,qT]
  have aC:=(ZH.1 hx).1;have dG:x.lO=lO:=by simpa using hpx
  have jI:l.findIdx? (λx=>decide (x.lO=lO))=some i:=by
   unfold Q5 at hi
   cases hf:l.findIdx? (λx=>decide (x.lO=lO))with
   |none=>rw[hf]at hi;simp at hi;omega
   |some j=>rw[hf]at hi;simp at hi;exact A5s some Aa
  rw[WU Y,pS,N2 hs];simp only[EL,jI,hx,Tw];have eU:l=l.take i++x::l.drop (i+1):=by rw[<-CL hx,A5j]
  have eD:Ju Prod.lO (l.take i++x::l.drop (i+1)):=eU▸hs;have h1:=A22.1 eD;have h3:=(A2x.1 h1.2.1).1;refine Ade ?_ (Nz hs) λz=>?_
  ·unfold Ju;rw[A22,A2x]
   exact⟨h1.1,⟨λy hy=>h3 y hy,(A2x.1 h1.2.1).2⟩,λa ha b hb=>by
    rcases Als.1 hb with rfl|hb
    ·exact h1.2.2 a ha x Ac
    ·exact h1.2.2 a ha b (by simp[hb])⟩
  ·rw[I2];simp only[A25,Als];constructor
   ·rintro(h|rfl|h)
    ·exact .inr ⟨A3c h,by have:=h1.2.2 z h x Ac;show z.lO≠x.lO;omega⟩
    ·exact .inl Y
    ·exact .inr ⟨A6k h,by have:=h3 z h;show z.lO≠x.lO;omega⟩
   ·rintro(rfl|⟨h,aE⟩)
    ·exact .inr (.inl Y)
    ·rw[eU]at h;simp only[A25,Als]at h;rcases h with h|rfl|h
     ·exact .inl h
     ·exact absurd Y aE
     ·exact .inr (.inr h)
theorem Vj {l:List Prod} (hl:EN l=true) (lO:Int):EN (EL l lO)=true:=by
 rw[Zb hl];split
 ·rename_i hh;refine UA hl ?_;have hk:=(EG.1 hl).2 _ (S5 hh).1;have hb:=HV hk;have:Dt {BK l lO with s9:=[]}:=by unfold Dt at hb⊢;simp only[A46];omega
  simp[CW,this,BQ]
 ·exact hl
theorem Za {l:List Prod} (hl:EN l=true) {lO k:Int} (aE:k≠lO):H6 (EL l lO) k=H6 l k/\BK (EL l lO) k=BK l k:=by
 rw[Zb hl];split
 ·rename_i hh;have h2:=(S5 hh).2;have e: ¬({BK l lO with s9:=[]}:Prod).lO=k:=λe=>aE (by rw[<-e];exact h2);rw[S4 hl,OZ hl,Ug e];simp[e]
 ·exact⟨Y,Y⟩
theorem RB: ∀{l:List Batch} {f:Int},0<=f->(∀b∈l,A4 b=true)->Ju Row.offset (Cq l f)/\ ∀r∈Cq l f,f<=r.offset/\r.offset<f+Ee l/\JX r=false
 |[],f,_,_=>⟨List.Pairwise.nil,λr h=>by simp[Cq]at h⟩
 |b::t,f,hf,hb=>by
  have mH:=hb b Ac;obtain⟨h1,h2⟩:=RB (l:=t) (f:=f+b.rZ.length) Aa λx hx=>hb x (by simp[hx])
  have h3: ∀r∈CA b f,f<=r.offset/\r.offset<f+b.rZ.length:=λr hr=>by
   obtain⟨i,z,hz,rfl⟩:=N6 hr;have aC:=(ZH.1 hz).1;simp only[IX];rw[Ug Aa];omega
  refine⟨?_,λr hr=>?_⟩
  ·simp only[Cq,Ju];rw[A22];exact⟨Xt hf,h1,λx hx y hy=>by have:=h3 x hx;have:=h2 y hy;omega⟩
  ·simp only[Cq,Ee]at hr⊢;rcases A25.1 hr with hr|hr
   ·have:=h3 r hr;exact⟨Aa,Aa,Adj mH hr⟩
   ·obtain⟨k1,k2,k3⟩:=h2 r hr;exact⟨Aa,Aa,k3⟩
theorem Aec {e:Int} {p:Part} {k:Nat} {o:Opn} {oC:Bool} (h:POk p) (hk:p.kI[k]?=some o) (hf:p.fin+Ee o.gG+1<=1048576):POk (FF e p k o oC):=by
 have h0:=h.b0;have h1:=h.b1;have h2:=h.b2;have iU:=(h.ook o (Apj hk)).1;obtain⟨k1,k2⟩:=RB (l:=o.gG) (f:=p.fin) Aa λb hb=>(E2 iU b hb).1
 have lM:p.fin<=(FF e p k o oC).fin/\(FF e p k o oC).fin<=p.fin+Ee o.gG+1/\(oC=true->p.fin+Ee o.gG<=(FF e p k o oC).fin):=by
  have hd:(0:Int)<=(if e=0 then 1 else 0)/\(if e=0 then(1:Int)else 0)<=1:=by split<;>omega
  cases oC with
  |false=>
   simp only[FF,KK,A0s,ZF];exact⟨Aa,Aa,λh=>by cases h⟩
  |true=>
   simp only[FF,KK,Xs];exact⟨Aa,Aa,λ_=>Aa⟩
 have lV: ∀r∈(FF e p k o oC).rows,r∈p.rows\/(oC=true/\r∈Cq o.gG p.fin):=λr hr=>by
  cases oC with
  |false=>simp only[FF,KK,A0s,ZF]at hr;exact .inl hr
  |true=>
   simp only[FF,KK,Xs]at hr;rcases A25.1 hr with hr|hr
   ·exact .inl hr
   ·exact .inr ⟨Y,hr⟩
 obtain⟨f1,f2,f3⟩:=lM;refine⟨h0,by show p.vR<=(FF e p k o oC).fin;omega,by show(FF e p k o oC).fin<=1048576;omega,?_,λr hr=>?_,Uh h.vY,λr hr=>?_,Vj h.vW _,λx hx=>?_⟩
 ·cases oC with
  |false=>simp only[FF,KK,A0s,ZF];exact h.srt
  |true=>
   simp only[FF,KK,Xs,Ju];rw[A22];exact⟨h.srt,k1,λx hx y hy=>by have:=h.rin x hx;have:=k2 y hy;omega⟩
 ·show p.vR<=r.offset/\r.offset<(FF e p k o oC).fin;rcases lV r hr with hr|⟨hy,hr⟩
  ·have:=h.rin r hr;omega
  ·have:=k2 r hr;have:=f3 hy;omega
 ·rcases lV r hr with hr|⟨_,hr⟩
  ·exact h.rok r hr
  ·exact(k2 r hr).2.2
 ·obtain⟨q1,q2⟩:=Px h.vY hk hx;obtain⟨c1,c2⟩:=Za h.vW (lO:=o.lO) (k:=x.lO) q2;have:=h.ook x q1;unfold Th at this⊢;show _/\H6 (EL p.rA o.lO) x.lO=true/\(BK (EL p.rA o.lO) x.lO).lT=_/\(BK (EL p.rA o.lO) x.lO).next=_;rw[c1,c2];exact this
theorem Amx {e q:Int} {p:Part} {lO:Int} {oC:Bool} (h:(Mn e q p lO oC).e=0):Fy e q p=false/\((p.kI.find? (λo=>decide (o.lO=lO))=none/\Mn e q p lO oC=⟨p,[],0⟩)\/ ∃(k:Nat) (o:Opn),p.kI[k]?=some o/\o.lO=lO/\Mn e q p lO oC=⟨FF e p k o oC,P3 e q o oC,0⟩):=by
 unfold Mn at h;split at h
 ·simp at h
 ·rename_i hn
  have h1:Fy e q p=false:=by
   cases hb:Fy e q p with
   |false=>rfl
   |true=>exact absurd hb hn
  refine⟨h1,?_⟩
  cases hf:p.kI.find? (λo=>decide (o.lO=lO))with
  |none=>exact .inl ⟨Y,by simp[Mn,h1,hf]⟩
  |some o=>
   obtain⟨k,hk,eS,_⟩:=Lx hf;have dG:o.lO=lO:=by simpa using A6d hf
   exact .inr ⟨k,o,hk,dG,by simp[Mn,h1,hf,eS]⟩
structure TQ (i:Nat) (p:Part):Prop where
 vS:AU p
 fin:p.fin<=40*i
 rows:p.rows.length<=40*i
 kI:p.kI.length<=i
theorem TQ.up {i:Nat} {p:Part} (h:TQ i p):TQ (i+1) p:=⟨h.vS,by have:=h.fin;omega,by have:=h.rows;omega,by have:=h.kI;omega⟩
theorem TQ.one {i:Nat} {p:Part} {b:Batch} (h:TQ i p) (hi:i<=1000) (hp:POk p) (hb:A4 b=true) (bA:POk (I0 p b)):TQ (i+1) (I0 p b):=by
 have hm:=BV hb;have h1:=h.fin;have h2:=h.rows;have h3:=h.kI;have oB:(CA b p.fin).length=b.rZ.length:=Ajz
 have k1:(I0 p b).rows.length<=p.rows.length+4:=by
  cases ht:b.vV with
  |true=>simp[I0,ht,O3]
  |false=>simp[I0,ht,EH];omega
 have k2:(I0 p b).kI.length<=p.kI.length+1:=by
  cases ht:b.vV with
  |true=>simp only[I0,ht,Xs,O3];exact Aq3
  |false=>simp[I0,ht,EH]
 have k3:(I0 p b).fin<=p.fin+4:=by
  cases ht:b.vV with
  |true=>simp[I0,ht,O3];omega
  |false=>simp[I0,ht,EH];omega
 exact⟨U3 bA Aa Aa,Aa,Aa,Aa⟩
theorem TQ.end {i:Nat} {e:Int} {p:Part} {k:Nat} {o:Opn} {oC:Bool} (h:TQ i p) (hi:i<=1000) (hp:POk p) (hk:p.kI[k]?=some o):TQ (i+1) (FF e p k o oC):=by
 have h1:=h.fin;have h2:=h.rows;have h3:=h.kI;have iU:=(hp.ook o (Apj hk)).1;have hl:=CM iU;have hr:=Hc (l:=o.gG) λb hb=>(E2 iU b hb).1;have bA:=Aec (e:=e) (oC:=oC) hp hk Aa;have hd:(0:Int)<=(if e=0 then 1 else 0)/\(if e=0 then(1:Int)else 0)<=1:=by split<;>omega
 have k1:(FF e p k o oC).rows.length<=p.rows.length+32:=by
  cases oC with
  |false=>simp only[FF,KK,A0s,ZF];omega
  |true=>simp only[FF,KK,Xs,Xp,Hb];omega
 have k2:(FF e p k o oC).kI.length<=p.kI.length:=by
  simp only[FF];rw[A68];split<;>omega
 have k3:(FF e p k o oC).fin<=p.fin+33:=by
  cases oC with
  |false=>simp only[FF,KK,A0s,ZF];omega
  |true=>simp only[FF,KK,Xs];omega
 exact⟨U3 bA Aa Aa,Aa,Aa,Aa⟩
theorem TQ.cut {i:Nat} {p:Part} {n:Int} (h:TQ i p):TQ (i+1) (SJ p n):=by
 obtain⟨s1,s2,s3,s4⟩:=h.vS;have hl:(p.rows.filter (λr=>decide (n<=r.offset))).length<=p.rows.length:=A65 ..;have h1:=h.fin;have h2:=h.rows;have h3:=h.kI;exact⟨⟨by simp only[SJ];omega,s2,s3,s4⟩,by simp only[SJ];omega,by simp only[SJ];omega,by simp only[SJ];omega⟩
end Go.Proofs.YtppffhlbcgpgdaaGreatDoor
namespace Go.Proofs.YtppffhlbcgpgdaaGreatDoor
open Go.Am
attribute [local irreducible] Decidable.decide Tr A6 CG EJ
theorem QT (b sz:Nat) (es:List (List T)) (n:Nat) (h:n=es.length):BG b sz es (.row b sz 0 n)=.t (.slice .any sz es):=by
 subst h;simp[BG]
