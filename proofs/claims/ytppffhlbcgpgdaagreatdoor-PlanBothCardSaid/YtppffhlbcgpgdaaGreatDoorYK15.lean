/- Lemmas toward the law; each names its conditions. -/
import Derived.Test.YtppffhlbcgpgdaaGreatDoorYK13
set_option linter.all false
set_option maxRecDepth 100000
set_option maxHeartbeats 8000000
namespace Go.Proofs.YtppffhlbcgpgdaaGreatDoor
open Go.Am
attribute [local irreducible] Decidable.decide Tr A6 CG EJ
structure StM (s:MState):Prop where
 t0:G7 s.t0
 t1:G7 s.t1
 t2:G7 s.t2
def Dd (c:Coord) (oC:Bool) (sA:Int):Coord:={c with state:=if oC=true then 3 else 4,sA:=sA}
theorem Wu (p:Part) (hs:AU p):A3z 62 [.agg (Af (Ax p))] [] (.t (.int .i64 (if BU p=true then 0 else 2))) []:=by
 have cc:=Vc p hs;unfold C4 at cc
 cases h:BU p with
 |true=>
  rw[h,WU Y]at cc;refine yF Tryz.func62 ?_
  repeat'(first|exact Au|refine yC ?_ ?_|refine⟨λh=>?_⟩|refine BZ Abz ?_|fail)
  all_goals exact Ah Y (A3m Y)
 |false=>
  rw[h,Ug Ac]at cc;have cd:=Ip (Qw p) 2;refine yF Tryz.func62 ?_
  repeat'(first|exact Au|refine yC ?_ ?_|refine⟨λh=>?_⟩|fail)
  all_goals exact Ah Y (A3m Y)
theorem Tz (i:Image) (hs:SmallI i):A3z 37 [.agg (Af (Ao i))] [] (.t (.bool (BU i.p0&&(BU i.p1&&BU i.p2)))) []:=by
 have c0:=Wu i.p0 hs.p0;have c1:=Wu i.p1 hs.p1;have c2:=Wu i.p2 hs.p2;have dO:IntKind.i64.wrap (0+1)=1:=by decide+kernel
 have dD:IntKind.i64.wrap (1+1)=2:=by decide+kernel
 have dZ:IntKind.i64.wrap (2+1)=3:=by decide+kernel
 generalize BU i.p0=P0 at c0⊢;generalize BU i.p1=P1 at c1⊢;generalize BU i.p2=P2 at c2⊢;cases P0<;>cases P1<;>cases P2
 all_goals
  simp only[Xs,ZF,A0s]at c0 c1 c2;refine yF Tryz.func37 ?_
  repeat'(first|exact Au|refine yC ?_ ?_|refine⟨λh=>?_⟩|refine B6 5 ?_|refine BH ?_|rw[dO]|rw[dD]|rw[dZ]|fail)
  all_goals first
   |exact Ah Y (A3m Y)
theorem OJ (s:MState) (lO:Int):(QH s lO=none)\/QH s lO=some 0\/QH s lO=some 1\/QH s lO=some 2:=by
 unfold QH
 repeat' split
 all_goals simp
theorem Py (i:Image) (c:Coord) (hc:SmallC c):A3z 63 [.t (.slice .any 1 (c.parts.map Cy)),.t (.slice .any 1 ((BF i c.lO).map Cy))] [] (.t (.bool (decide (c.parts=BF i c.lO)))) []:=UX c.parts _ (by have:=hc.parts;omega)
theorem Acm {α:Type} {l:List α} {f:α->Bool} {k:Nat} {x:α} (h:l[k]?=some x) (hf:f x=false):l.all f=false:=by
 cases hq:l.all f with
 |false=>rfl
 |true=>rw[A21.1 hq x (Apj h)]at hf;cases hf
theorem SX {α:Type} {l:List α} {f:α->Bool} {k:Nat} {x:α} (h:l[k]?=some x) (ha:(l.take k).all f=true) (hf:f x=true):(l.take (k+1)).all f=true:=by
 rw[AB h,A8i,ha];simp[hf]
theorem Akl (i:Image) (hs:SmallI i):A3z 38 [.agg (Af (Ao i))] [] (.t (.bool (RX i))) []:=by
 have e0:=Py i i.m.t0 hs.t0;have e1:=Py i i.m.t1 hs.t1;have e2:=Py i i.m.t2 hs.t2;have w0:=Jw i i.m.t0.lO hs;have w1:=Jw i i.m.t1.lO hs;have w2:=Jw i i.m.t2.lO hs;have dO:IntKind.i64.wrap (0+1)=1:=by decide+kernel
 have dD:IntKind.i64.wrap (1+1)=2:=by decide+kernel
 have dZ:IntKind.i64.wrap (2+1)=3:=by decide+kernel
 unfold RX;generalize decide (i.m.t0.parts=BF i i.m.t0.lO)=W0 at e0⊢;generalize decide (i.m.t1.parts=BF i i.m.t1.lO)=W1 at e1⊢;generalize decide (i.m.t2.parts=BF i i.m.t2.lO)=W2 at e2⊢;refine yF Tryz.func38 ?_
 repeat'(first|exact Au|refine yC ?_ ?_|refine⟨λh=>?_⟩|refine BA 4 6 ?_|refine BA 14 11 ?_|fail)
 refine B6 5 ?_
 repeat'(first|exact Au|refine yC ?_ ?_|refine⟨λh=>?_⟩|refine BA 4 6 ?_|refine BA 14 11 ?_|refine BH ?_|rw[dO]|rw[dD]|rw[dZ]|fail)
 all_goals try exact Ah Y (A3m (by simp_all))
 have hW:(W0&&(W1&&W2))=true:=by simp_all
 rw[hW,A5a];refine B6 5 ?_
 repeat'(first|exact Au|refine yC ?_ ?_|refine⟨λh=>?_⟩|refine BA 4 6 ?_|refine BA 14 11 ?_|refine BH ?_|rw[dO]|rw[dD]|rw[dZ]|fail)
 have hlm0:(i.p0.kI.map An).length=i.p0.kI.length:=Ts ..;have iQ:=hs.p0.2.1;refine AW (ι:=Nat) (λk=>k<=i.p0.kI.length/\(i.p0.kI.take k).all (Ei i.m)=true) (λk=>[(1,.ref 2 0),(27,.agg (Af (Ax i.p0++(Ax i.p1++Ax i.p2)))),(28,.t (.int .i64 0)),(32,.t (.slice .any 3 (i.p0.kI.map An))),(33,.t (.int .i64 ((i.p0.kI.map An).length:Int))),(34,.t (.int .i64 k))]) (λ_=>[(2,.cells (Af (Ao i)))]) (λk=>i.p0.kI.length-k) 0 Ac ?_ ?_
 ·exact Bb [4,6,8] Aa6 Y
 rintro k0 ⟨qQ,e8⟩;by_cases gO:k0<i.p0.kI.length
 ·have hr:i.p0.kI[k0]?=some i.p0.kI[k0]:=Kv gO;generalize i.p0.kI[k0]=o at hr;have co:=LP i.m o.lO;rcases OJ i.m o.lO with ho|ho|ho|ho
  all_goals
   rw[ho]at co;simp only[Ry]at co
   repeat'(first|exact Au|refine yC ?_ ?_|refine⟨λh=>?_⟩|refine BA 4 6 ?_|refine BA 14 11 ?_|fail)
   all_goals first
    |exact Ah Y (A3m (by rw[Acm hr (show Ei i.m o=false by simp_all[Ei,Aj])];try simp))
    |exact AM (k0+1) ⟨gO,SX hr e8 (by simp_all[Ei,Aj])⟩ Aa [8] (Ag Y Y (Ag Y Y (Ag Y Y (Ag Y Y (Ag Y Y (Ag Y (by rw[A1 Aa Aa];rfl) A8)))))) Y
 rw[QQ Aa]at e8;rw[e8];try rw[A5a]
 repeat'(first|exact Au|refine yC ?_ ?_|refine⟨λh=>?_⟩|refine BA 4 6 ?_|refine BA 14 11 ?_|refine BH ?_|rw[dO]|rw[dD]|rw[dZ]|fail)
 have hlm1:(i.p1.kI.map An).length=i.p1.kI.length:=Ts ..;have j9:=hs.p1.2.1;refine AW (ι:=Nat) (λk=>k<=i.p1.kI.length/\(i.p1.kI.take k).all (Ei i.m)=true) (λk=>[(1,.ref 2 0),(27,.agg (Af (Ax i.p0++(Ax i.p1++Ax i.p2)))),(28,.t (.int .i64 1)),(32,.t (.slice .any 3 (i.p1.kI.map An))),(33,.t (.int .i64 ((i.p1.kI.map An).length:Int))),(34,.t (.int .i64 k))]) (λ_=>[(2,.cells (Af (Ao i)))]) (λk=>i.p1.kI.length-k) 0 Ac ?_ ?_
 ·exact Bb [4,6,8] Aa6 Y
 rintro k1 ⟨qP,kP⟩;by_cases j8:k1<i.p1.kI.length
 ·have hr:i.p1.kI[k1]?=some i.p1.kI[k1]:=Kv j8;generalize i.p1.kI[k1]=o at hr;have co:=LP i.m o.lO;rcases OJ i.m o.lO with ho|ho|ho|ho
  all_goals
   rw[ho]at co;simp only[Ry]at co
   repeat'(first|exact Au|refine yC ?_ ?_|refine⟨λh=>?_⟩|refine BA 4 6 ?_|refine BA 14 11 ?_|fail)
   all_goals first
    |exact Ah Y (A3m (by rw[Acm hr (show Ei i.m o=false by simp_all[Ei,Aj])];try simp))
    |exact AM (k1+1) ⟨j8,SX hr kP (by simp_all[Ei,Aj])⟩ Aa [8] (Ag Y Y (Ag Y Y (Ag Y Y (Ag Y Y (Ag Y Y (Ag Y (by rw[A1 Aa Aa];rfl) A8)))))) Y
 rw[QQ Aa]at kP;rw[kP];try rw[A5a]
 repeat'(first|exact Au|refine yC ?_ ?_|refine⟨λh=>?_⟩|refine BA 4 6 ?_|refine BA 14 11 ?_|refine BH ?_|rw[dO]|rw[dD]|rw[dZ]|fail)
 have nC:(i.p2.kI.map An).length=i.p2.kI.length:=Ts ..;have sK:=hs.p2.2.1;refine AW (ι:=Nat) (λk=>k<=i.p2.kI.length/\(i.p2.kI.take k).all (Ei i.m)=true) (λk=>[(1,.ref 2 0),(27,.agg (Af (Ax i.p0++(Ax i.p1++Ax i.p2)))),(28,.t (.int .i64 2)),(32,.t (.slice .any 3 (i.p2.kI.map An))),(33,.t (.int .i64 ((i.p2.kI.map An).length:Int))),(34,.t (.int .i64 k))]) (λ_=>[(2,.cells (Af (Ao i)))]) (λk=>i.p2.kI.length-k) 0 Ac ?_ ?_
 ·exact Bb [4,6,8] Aa6 Y
 rintro k2 ⟨g9,hY⟩;by_cases dX:k2<i.p2.kI.length
 ·have hr:i.p2.kI[k2]?=some i.p2.kI[k2]:=Kv dX;generalize i.p2.kI[k2]=o at hr;have co:=LP i.m o.lO;rcases OJ i.m o.lO with ho|ho|ho|ho
  all_goals
   rw[ho]at co;simp only[Ry]at co
   repeat'(first|exact Au|refine yC ?_ ?_|refine⟨λh=>?_⟩|refine BA 4 6 ?_|refine BA 14 11 ?_|fail)
   all_goals first
    |exact Ah Y (A3m (by rw[Acm hr (show Ei i.m o=false by simp_all[Ei,Aj])];try simp))
    |exact AM (k2+1) ⟨dX,SX hr hY (by simp_all[Ei,Aj])⟩ Aa [8] (Ag Y Y (Ag Y Y (Ag Y Y (Ag Y Y (Ag Y Y (Ag Y (by rw[A1 Aa Aa];rfl) A8)))))) Y
 rw[QQ Aa]at hY;rw[hY];try rw[A5a]
 repeat'(first|exact Au|refine yC ?_ ?_|refine⟨λh=>?_⟩|refine BA 4 6 ?_|refine BA 14 11 ?_|refine BH ?_|rw[dO]|rw[dD]|rw[dZ]|fail)
 all_goals exact Ah Y (A3m Y)
theorem Kf (i:Image) (hs:SmallI i):A3z 14 [.agg (Af (Ao i))] [] (.t (.int .i64 (if GK i=true then 0 else 2))) []:=by
 have cm:=DK i.m hs.t0 hs.t1 hs.t2;have cp:=Tz i hs;have co:=Akl i hs;unfold GK;generalize Bv i.m=M at cm⊢;generalize(BU i.p0&&(BU i.p1&&BU i.p2))=P at cp⊢;generalize RX i=O at co⊢;cases M<;>cases P<;>cases O
 all_goals
  refine yF Tryz.func14 ?_
  repeat'(first|exact Au|refine yC ?_ ?_|refine⟨λh=>?_⟩|fail)
  all_goals first
   |(exfalso;omega)
   |exact Ah Y (A3m (by simp_all))
   |exact Ah Y (A3m (by simp;omega))
theorem GZ {α:Type} {l:List α} {z r:α} {i:Nat} (h:l[i]?=some r):(l.take i++List.replicate (l.length-i) z).set i r=l.take (i+1)++List.replicate (l.length-(i+1)) z:=by
 have aC:=(ZH.1 h).1;rw[AB h,A7l _ _ (by rw[A2i];exact Nat.min_le_left ..),A2i,A7i Aa,Nat.sub_self];rw[show l.length-i=(l.length-(i+1))+1 from Aa,A7t,List.set_cons_zero];simp
theorem Hm {α:Type} {l:List α} {z:α} {i:Nat} (h:i<l.length):(l.take i++List.replicate (l.length-i) z)[i]?=some z:=by
 rw[Aez (by rw[A2i];exact Nat.min_le_left ..),A2i,A7i Aa,Nat.sub_self,A70,WU Aa]
theorem Aog (r:Row):A3z 175 [.agg (Af (Aw r))] [] (.agg (Af (Aw r))) []:=by
 refine yF Tryz.func175 ?_
 repeat'(first|exact Au|refine yC ?_ ?_|refine⟨λh=>?_⟩|fail)
 exact Ah Y (A3m Y)
theorem Ah5 (l:List Row) (f:Nat) (hf: ∀r,A3z f [.agg (Af (Aw r))] [] (.agg (Af (Aw r))) []) (aE:l≠[]) (hl:l.length<=1000000):A3z 174 [.t (.slice .any 5 (l.map Aw)),.t (.func (.func f) [] [])] [] (.row 24 5 0 l.length) [(24,.grow 5 (l.map Aw))]:=by
 have aQ:(l.map Aw).length=l.length:=Ts ..;have dH:0<l.length:=A54.2 aE;have dQ:(((l.map Aw).length:Nat):Int)=(l.length:Int):=by rw[aQ]
 have hz:l.length*(56+1)<=140737488355328:=Aa;refine yG Tryz.func174 ?_
 repeat'(first|exact Au|refine yB ?_ ?_|refine⟨λh=>?_⟩|refine DH Ai Y Y Y Y Y Y Y dQ dQ Y Y (WW _) hz ?_|fail)
 ·exfalso;simp_all
 refine AW (ι:=Nat) (λi=>i<=l.length) (λi=>[(1,.t (.func (.func f) [] [])),(5,.row 24 5 0 l.length),(13,.t (.slice .any 5 (l.map Aw))),(14,.t (.int .i64 ((l.map Aw).length:Int))),(15,.t (.int .i64 i))]) (λi=>[(24,.grow 5 ((l.map Aw).take i++List.replicate ((l.map Aw).length-i) [.int .i64 0,.int .i64 0,.int .i64 0,.str [],.str []]))]) (λi=>l.length-i) 0 Ac ?_ ?_
 ·exact Bb [] Aa6 (by simp;rfl)
 rintro i hi;by_cases aC:i<l.length
 ·have hr:l[i]?=some l[i]:=Kv aC;generalize l[i]=r at hr;have hc:=hf r;have hg:((l.map Aw).take i++List.replicate ((l.map Aw).length-i) [.int .i64 0,.int .i64 0,.int .i64 0,.str [],.str []])[0+i]?=some [.int .i64 0,.int .i64 0,.int .i64 0,.str [],.str []]:=by rw[Atj];exact Hm (by rw[aQ];exact aC)
  repeat'(first|exact Au|refine yC ?_ ?_|refine⟨λh=>?_⟩|refine BZ hc ?_|refine Cb Ai (kc:=i) Y Y Y Y Y Y Y Y aC Y ?_|refine E9 Ai (ts:=Aw r) Y Y Y Y Y Y Y Y Y Y hg Y Y ?_|fail)
  refine AM (i+1) aC Aa [7] (Ag Y Y (Ag Y Y (Ag Y Y (Ag Y Y (Ag Y (by rw[A1 Aa Aa];rfl) A8))))) ?_;have cA:F3 [.int .i64 0,.int .i64 0,.int .i64 0,.str [],.str []] 0 (Aw r)=Aw r:=rfl;rw[<-GZ (C8 hr)];simp only[Atj];rw[cA];rfl
 ·repeat'(first|exact Au|refine yC ?_ ?_|refine⟨λh=>?_⟩|fail)
  have e:(l.map Aw).take i++List.replicate ((l.map Aw).length-i) [.int .i64 0,.int .i64 0,.int .i64 0,.str [],.str []]=l.map Aw:=by
   rw[QQ Aa,show(l.map Aw).length-i=0 from Aa];simp
  rw[e];exact A0 [] Y Y Y (A3l _)
theorem Ah6 (f:Nat):A3z 174 [.t (.slice .any 5 []),.t (.func (.func f) [] [])] [] (.t (.slice .any 5 [])) []:=by
 refine yF Tryz.func174 ?_
 repeat'(first|exact Au|refine yC ?_ ?_|refine⟨λh=>?_⟩|refine DH Ai (l:=0) (cc:=0) Y Y Y Y Y Y Y Y Y Y Y Aa Aa ?_|fail)
 ·exact Ah Y Ay
 refine B6 1 ?_;refine BH ?_
 repeat'(first|exact Au|refine yC ?_ ?_|refine⟨λh=>?_⟩|fail)
 all_goals first
  |(exfalso;simp_all;done)
  |exact Ah Y (A3m Y)
  |(refine Ah Y (A3m ?_);simp[BG];done)
theorem Aoe (l:List Row) (f:Nat) (hf: ∀r,A3z f [.agg (Af (Aw r))] [] (.agg (Af (Aw r))) []) (hl:l.length<=1000000):A3z 174 [.t (.slice .any 5 (l.map Aw)),.t (.func (.func f) [] [])] [] (.t (.slice .any 5 (l.map Aw))) []:=by
 by_cases h:l=[]
 ·subst h;exact Ah6 f
 ·refine A3p (b:=24) ?_;rw[Ts];exact Ah5 l f hf h hl
theorem Aof (l:List Row) (hl:l.length<=1000000):A3z 111 [.t (.slice .any 5 (l.map Aw))] [] (.t (.slice .any 5 (l.map Aw))) []:=by
 have c:=Aoe l _ Aog hl;refine yF Tryz.func111 ?_
 repeat'(first|exact Au|refine yC ?_ ?_|refine⟨λh=>?_⟩|fail)
 exact Ah Y (A3m Y)
theorem Aoj (r:Rec):A3z 119 [.agg (Af (AX r))] [] (.agg (Af (AX r))) []:=by
 refine yF Tryz.func119 ?_
 repeat'(first|exact Au|refine yC ?_ ?_|refine⟨λh=>?_⟩|fail)
 exact Ah Y (A3m Y)
theorem Ah8 (l:List Rec) (f:Nat) (hf: ∀r,A3z f [.agg (Af (AX r))] [] (.agg (Af (AX r))) []) (aE:l≠[]) (hl:l.length<=1000000):A3z 118 [.t (.slice .any 2 (l.map AX)),.t (.func (.func f) [] [])] [] (.row 24 2 0 l.length) [(24,.grow 2 (l.map AX))]:=by
 have aQ:(l.map AX).length=l.length:=Ts ..;have dH:0<l.length:=A54.2 aE;have dQ:(((l.map AX).length:Nat):Int)=(l.length:Int):=by rw[aQ]
 have hz:l.length*(32+1)<=140737488355328:=Aa;refine yG Tryz.func118 ?_
 repeat'(first|exact Au|refine yB ?_ ?_|refine⟨λh=>?_⟩|refine DH Ai Y Y Y Y Y Y Y dQ dQ Y Y (WW _) hz ?_|fail)
 ·exfalso;simp_all
 refine AW (ι:=Nat) (λi=>i<=l.length) (λi=>[(1,.t (.func (.func f) [] [])),(5,.row 24 2 0 l.length),(13,.t (.slice .any 2 (l.map AX))),(14,.t (.int .i64 ((l.map AX).length:Int))),(15,.t (.int .i64 i))]) (λi=>[(24,.grow 2 ((l.map AX).take i++List.replicate ((l.map AX).length-i) [.str [],.str []]))]) (λi=>l.length-i) 0 Ac ?_ ?_
 ·exact Bb [] Aa6 (by simp;rfl)
 rintro i hi;by_cases aC:i<l.length
 ·have hr:l[i]?=some l[i]:=Kv aC;generalize l[i]=r at hr;have hc:=hf r;have hg:((l.map AX).take i++List.replicate ((l.map AX).length-i) [.str [],.str []])[0+i]?=some [.str [],.str []]:=by rw[Atj];exact Hm (by rw[aQ];exact aC)
  repeat'(first|exact Au|refine yC ?_ ?_|refine⟨λh=>?_⟩|refine BZ hc ?_|refine Cb Ai (kc:=i) Y Y Y Y Y Y Y Y aC Y ?_|refine E9 Ai (ts:=AX r) Y Y Y Y Y Y Y Y Y Y hg Y Y ?_|fail)
  refine AM (i+1) aC Aa [7] (Ag Y Y (Ag Y Y (Ag Y Y (Ag Y Y (Ag Y (by rw[A1 Aa Aa];rfl) A8))))) ?_;have cA:F3 [.str [],.str []] 0 (AX r)=AX r:=rfl;rw[<-GZ (C8 hr)];simp only[Atj];rw[cA];rfl
 ·repeat'(first|exact Au|refine yC ?_ ?_|refine⟨λh=>?_⟩|fail)
  have e:(l.map AX).take i++List.replicate ((l.map AX).length-i) [.str [],.str []]=l.map AX:=by
   rw[QQ Aa,show(l.map AX).length-i=0 from Aa];simp
  rw[e];exact A0 [] Y Y Y (A3l _)
theorem Ah9 (f:Nat):A3z 118 [.t (.slice .any 2 []),.t (.func (.func f) [] [])] [] (.t (.slice .any 2 [])) []:=by
 refine yF Tryz.func118 ?_
 repeat'(first|exact Au|refine yC ?_ ?_|refine⟨λh=>?_⟩|refine DH Ai (l:=0) (cc:=0) Y Y Y Y Y Y Y Y Y Y Y Aa Aa ?_|fail)
 ·exact Ah Y Ay
 refine B6 1 ?_;refine BH ?_
 repeat'(first|exact Au|refine yC ?_ ?_|refine⟨λh=>?_⟩|fail)
 all_goals first
  |(exfalso;simp_all;done)
  |exact Ah Y (A3m Y)
  |(refine Ah Y (A3m ?_);simp[BG];done)
theorem Aoh (l:List Rec) (f:Nat) (hf: ∀r,A3z f [.agg (Af (AX r))] [] (.agg (Af (AX r))) []) (hl:l.length<=1000000):A3z 118 [.t (.slice .any 2 (l.map AX)),.t (.func (.func f) [] [])] [] (.t (.slice .any 2 (l.map AX))) []:=by
 by_cases h:l=[]
 ·subst h;exact Ah9 f
 ·refine A3p (b:=24) ?_;rw[Ts];exact Ah8 l f hf h hl
theorem Aoi (l:List Rec) (hl:l.length<=1000000):A3z 77 [.t (.slice .any 2 (l.map AX))] [] (.t (.slice .any 2 (l.map AX))) []:=by
 have c:=Aoh l _ Aoj hl;refine yF Tryz.func77 ?_
 repeat'(first|exact Au|refine yC ?_ ?_|refine⟨λh=>?_⟩|fail)
 exact Ah Y (A3m Y)
theorem UV (b:Batch) (hl:b.rZ.length<=1000000):A3z 47 [.agg (Af (Ak b))] [] (.agg (Af (Ak b))) []:=by
 have c:=Aoi b.rZ hl;refine yF Tryz.func47 ?_
 repeat'(first|exact Au|refine yC ?_ ?_|refine⟨λh=>?_⟩|fail)
 exact Ah Y (A3m Y)
theorem Ara (r:Req) (hl:r.b.rZ.length<=1000000):A3z 30 [.agg (Af (A7 r))] [] (.agg (Af (A7 r))) []:=by
 have c:=UV r.b hl;refine yF Tryz.func30 ?_
 repeat'(first|exact Au|refine yC ?_ ?_|refine⟨λh=>?_⟩|fail)
 exact Ah Y (A3m Y)
