/- Lemmas toward the law; each names its conditions. -/
import Derived.Test.YtppffhlbcgpgdaaGreatDoorYXV
set_option linter.all false
set_option maxRecDepth 100000
set_option maxHeartbeats 8000000
namespace Go.Proofs.YtppffhlbcgpgdaaGreatDoor
open Go.Am
attribute [local irreducible] Decidable.decide Tr A6 CG EJ
theorem A0v: ∀{l:List Opn} (k:Int),(l.map Opn.lO).Pairwise (· < ·)->HN l k=l.any (λo=>decide (o.lO=k))
 |[],k,_=>by simp[HN,Ob]
 |a::r,k,hp=>by
  simp only[A5h,A2x]at hp;by_cases h:a.lO>=k
  ·have e:Ob (a::r) k=0:=by simp[Ob,List.findIdx?_cons,h]
   unfold HN;rw[e];by_cases he:a.lO=k
   ·simp[he]
   ·have:r.any (λo=>decide (o.lO=k))=false:=by
     rw[A4u];intro x hx;have:=hp.1 x.lO (List.mem_map_of_mem hx);simp;omega
    simp[he,this]
  ·have e:Ob (a::r) k=Ob r k+1:=by
    simp only[Ob,List.findIdx?_cons,h,A64,A0s,ZF];cases hf:r.findIdx? (λx=>decide (x.lO>=k))<;>simp
   have ih:=A0v (l:=r) k hp.2;have he: ¬a.lO=k:=Aa;unfold HN at ih⊢;rw[e,A5z,ih];simp[he]
structure POkI (i:Image):Prop where
 p0:POk i.p0
 p1:POk i.p1
 p2:POk i.p2
theorem Al2 {p:Part} (h:POk p):DW p 0=false:=by
 unfold DW;rw[A4u];intro x hx;have:=(IH (h.ook x hx).1).1;simp;omega
structure SrtI (i:Image):Prop where
 p0:(i.p0.kI.map Opn.lO).Pairwise (· < ·)
 p1:(i.p1.kI.map Opn.lO).Pairwise (· < ·)
 p2:(i.p2.kI.map Opn.lO).Pairwise (· < ·)
theorem POkI.srt {i:Image} (h:POkI i):SrtI i:=⟨GO.1 h.p0.vY,GO.1 h.p1.vY,GO.1 h.p2.vY⟩
def V3 (i:Image) (q:Int):Bool:=BU (A5 i q)&&(A5 i q).kI.all (Ei i.m)
def Xv (i:Image) (t:Int):Bool:=decide ((Aj i.m t).parts=BF i (Aj i.m t).lO)
theorem Vk (i:Image):GK i=(decide (i.vQ=0\/i.vQ=1)&&(Bv i.m&&((V3 i 0&&(V3 i 1&&V3 i 2))&&(Xv i 0&&(Xv i 1&&Xv i 2))))):=by
 unfold GK RX V3 Xv;simp only[A5,Aj,Xs,Int.reduceEq,ZF];generalize decide (i.vQ=0\/i.vQ=1)=a;generalize Bv i.m=b;generalize BU i.p0=c0;generalize BU i.p1=c1;generalize BU i.p2=c2;generalize decide (i.m.t0.parts=BF i i.m.t0.lO)=d0;generalize decide (i.m.t1.parts=BF i i.m.t1.lO)=d1;generalize decide (i.m.t2.parts=BF i i.m.t2.lO)=d2;generalize i.p0.kI.all (Ei i.m)=e0;generalize i.p1.kI.all (Ei i.m)=e1;generalize i.p2.kI.all (Ei i.m)=e2;cases a<;>cases b<;>cases c0<;>cases c1<;>cases c2<;>cases d0<;>cases d1<;>cases d2<;>cases e0<;>cases e1<;>cases e2<;>rfl
def EQ (lO:Int) (oC:Bool) (s:Step) (q:Int):Step:=⟨s.w++(Mn s.i.vQ q (A5 s.i q) lO oC).w,CP s.i q (Mn s.i.vQ q (A5 s.i q) lO oC).part⟩
def DX (lO:Int) (oC:Bool) (s:Step) (l:List Int):Step:=l.foldl (EQ lO oC) s
theorem Qu (lO:Int) (oC:Bool) (s:Step) (l:List Int) (q:Int):DX lO oC s (l++[q])=EQ lO oC (DX lO oC s l) q:=by simp[DX]
structure EndsOk (lO:Int) (oC:Bool) (s:Step) (l:List Int):Prop where
 len:l.length<=1000000
 vS: ∀k,k<=l.length->SmallI (DX lO oC s (l.take k)).i
 good: ∀k q,l[k]?=some q->(q=0\/q=1\/q=2)/\(Mn (DX lO oC s (l.take k)).i.vQ q (A5 (DX lO oC s (l.take k)).i q) lO oC).e=0
 wlen: ∀k,k<=l.length->(DX lO oC s (l.take k)).w.length<=1000000
theorem SmallI.part {i:Image} (h:SmallI i) (q:Int):AU (A5 i q):=by
 unfold A5;repeat' split
 ·exact h.p0
 ·exact h.p1
 ·exact h.p2
theorem SmallI.m {i:Image} (h:SmallI i):SmallM i.m:=⟨h.t0,h.t1,h.t2⟩
theorem Aau (i:Image) (ht:i.vQ=0\/i.vQ=1) (hs:SmallI i) (mY:Int) (oC:Bool) (sA:Int) (h1:0<=mY/\mY<3) (h2:(0<=sA/\sA<=20)/\(oC=true->sA=0))
  (hp:CN (Aj i.m mY) oC sA=0) (hm:Bv i.m=true) (fN:Bv (AO i.m mY (CT (Aj i.m mY) oC sA))=true)
  (S:List Int->Step) (hS:S=DX (Aj i.m mY).lO oC ⟨Gn i.vQ (JT mY oC sA),Dy i (AO i.m mY (CT (Aj i.m mY) oC sA))⟩)
  (hE:EndsOk (Aj i.m mY).lO oC ⟨Gn i.vQ (JT mY oC sA),Dy i (AO i.m mY (CT (Aj i.m mY) oC sA))⟩ (Aj i.m mY).parts)
  (J:Step) (hJ:J=S (Aj i.m mY).parts) (rG:J.i.vQ=i.vQ) (n6:EK (Aj J.i.m mY)=0) (uQ:(Aj J.i.m mY).rH.all AZ=true) (uV:Bv J.i.m=true) (pD:Bv (DY J.i.m mY)=true)
  (K:Image) (hK:K=Dy J.i (DY J.i.m mY)) (vF:SmallI K) (vG:PlaceOk K):
  A3z 43 [.agg (Af (Ao i)),.t (.int .i64 mY),.t (.bool oC),.t (.int .i64 sA)] [] (.tuple [.agg (Af (Bx ⟨J.w++Gn i.vQ (JS mY),GQ K (Gi K) (Rw K) (Xe K)⟩)),.t .nilIface]) []:=by
 have c3:A3z 69 [.ref 1 0,.agg (Af (X7 3 mY oC sA))] _ _ _:=(VP i ht hs.m mY oC sA h1 h2 hp hm fN).args ⟨A3l _,X9 mY oC sA,trivial⟩;have vH:SmallI J.i:=by rw[hJ,hS];have:=hE.vS _ (WW _);rwa[QQ (WW _)]at this
 have c4:A3z 69 [.ref 1 0,.agg (Af (X7 4 mY false 0))] _ _ _:=(VO J.i (by rw[rG];exact ht) vH.m mY h1 n6 uQ uV pD).args ⟨A3l _,X8 mY,trivial⟩;rw[<-hK,rG]at c4;have cs:=GS K (J.w++Gn i.vQ (JS mY)) vF vG;rw[A38]at cs;have cc:=GI (Aj i.m mY).parts hE.len;obtain⟨aO,cS,c9,lB⟩:=hE;rw[<-hS]at cS c9 lB;have hJw:J.w.length<=1000000:=by rw[hJ];have:=lB _ (WW _);rwa[QQ (WW _)]at this
 obtain⟨a,b,kR⟩: ∃a b,Gn i.vQ (JS mY)=[a,b]:=⟨_,_,Y⟩
 rw[kR]at c4 cs⊢;clear kR hp hm fN n6 uQ uV pD hK vF vG vH rG
 obtain⟨C,hC⟩: ∃C,C=Aj i.m mY:=⟨_,Y⟩
 obtain⟨T,hT⟩: ∃T,T=mY:=⟨_,Y⟩
 rw[<-hT]at c4;rw[<-hC]at aO cS c9 lB hJ;have aQ:(C.parts.map Cy).length=C.parts.length:=Ts ..;have vC:S []=⟨Gn i.vQ (JT mY oC sA),Dy i (AO i.m mY (CT (Aj i.m mY) oC sA))⟩:=by rw[hS];rfl
 have tS: ∀l q,S (l++[q])=EQ C.lO oC (S l) q:=by intro l q;rw[hS,hC];exact Qu ..
 clear hS;rcases AH h1 with rfl|rfl|rfl
 all_goals
  refine yF Tryz.func43 ?_
  repeat'(first|exact Au|refine yC ?_ ?_|refine⟨λh=>?_⟩|refine BA 1 13 ?_|refine BA 8 17 ?_|refine BA 17 7 ?_|refine BT [(8,1)] [(58,152),(1,8)] c3 ?_|fail)
  refine AW (ι:=Nat) (λk=>k<=C.parts.length) (λk=>[(1,.t (.int .i64 T)),(2,.t (.bool oC)),(4,.ref 8 0),(8,.ref 16 0),(10,.t (.int .i64 C.lO)),(12,.row 152 4 0 ((S (C.parts.take k)).w.map BE).length),(45,.t (.slice .any 1 (C.parts.map Cy))),(46,.t (.int .i64 ((C.parts.map Cy).length:Int))),(47,.t (.int .i64 k))]) (λk=>[(152,.grow 4 ((S (C.parts.take k)).w.map BE)),(8,.cells (Af (Ao (S (C.parts.take k)).i))),(16,.cells (Af Atu.zero))]) (λk=>C.parts.length-k) 0 Ac ?_ ?_
  ·rw[A6t,vC];subst hC;subst hT;exact Bb [] Aa6 Y
  ·rintro k hk;clear c3 cc hC hT h1 vC;by_cases aC:k<C.parts.length
   ·have hr:C.parts[k]?=some C.parts[k]:=Kv aC;have uM:=cS k (Nat.le_of_lt aC);have hwk:=lB k (Nat.le_of_lt aC);obtain⟨hq,sT⟩:=c9 k _ hr;have n4:S (C.parts.take (k+1))=EQ C.lO oC (S (C.parts.take k)) C.parts[k]:=by rw[AB hr];exact tS ..
    have jD:=lB (k+1) aC;rw[n4]at jD;generalize C.parts[k]=q at hr hq sT n4 jD;generalize S (C.parts.take k)=s at uM hwk sT n4 jD;have cE:=Avw s.i.vQ q (A5 s.i q) C.lO oC (uM.part q);unfold EO.av at cE;rw[sT]at cE;simp only[EQ]at n4 jD;generalize Mn s.i.vQ q (A5 s.i q) C.lO oC=E at cE n4 jD;rw[Xp]at jD;clear cS c9 lB tS c4 cs;rcases hq with rfl|rfl|rfl
    all_goals
     repeat'(first|exact Au|refine yC ?_ ?_|refine⟨λh=>?_⟩|refine BA 1 13 ?_|refine BA 17 7 ?_|refine D4 8 17 [(15,32)] [0,1,0,0,0,24,56,0,0,511,1023,2047,2047,2047,0,20479,57343,131071] ?_|fail)
     all_goals first
      |(refine AM (k+1) aC Aa [14,16] (Ag Y Y (Ag Y Y (Ag Y Y (Ag Y Y (Ag Y Y (Ag Y ?_ (Ag Y Y (Ag Y Y (Ag Y (by rw[A1 Aa Aa];rfl) A8))))))))) ?_
        all_goals(rw[n4];(try simp only[A38]);rfl))
   ·have dR:C.parts.take k=C.parts:=QQ Aa;rw[dR,show S C.parts=J from hJ.symm];clear cS c9 lB tS;have dV:BG 152 4 (J.w.map BE++[a,b].map BE) (.row 152 4 0 (J.w.map BE++[a,b].map BE).length)=.t (.slice .any 4 (J.w.map BE++[a,b].map BE)):=QT _ _ _ _ Y
    repeat'(first|exact Au|refine A3x 162 Y ?_|refine yC ?_ ?_|refine⟨λh=>?_⟩|refine BA 1 13 ?_|refine BA 8 17 ?_|refine BT [(8,1)] [(58,162),(1,8)] c4 ?_|refine TT Ai [1,2] 7 Ab Y Y (by rintro ch e s ⟨hx,_⟩;rcases hx with hx|hx<;>cases hx) ?_|refine Aei Y ?_|refine JK Y Y ?_|refine LA Y Y Y ?_ ?_|refine A0m Y Y Y Y ?_ ?_ ?_|refine FA 91 152 Y Y Y dV ?_|fail)
    all_goals first
     |exact Ah Y (A3m Y)
structure MayT (s:MState):Prop where
 t0:BD s.t0=true
 t1:BD s.t1=true
 t2:BD s.t2=true
theorem Np (i:Image) (lO:Int):CD (BF i lO)=true:=by
 unfold BF;cases DW i.p0 lO<;>cases DW i.p1 lO<;>cases DW i.p2 lO<;>decide+kernel
