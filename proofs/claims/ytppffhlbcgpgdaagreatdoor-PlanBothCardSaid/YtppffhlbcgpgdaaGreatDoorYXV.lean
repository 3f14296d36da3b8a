/- Lemmas toward the law; each names its conditions. -/
import Derived.Test.YtppffhlbcgpgdaaGreatDoorYXn
set_option linter.all false
set_option maxRecDepth 100000
set_option maxHeartbeats 8000000
namespace Go.Proofs.YtppffhlbcgpgdaaGreatDoor
open Go.Am
attribute [local irreducible] Decidable.decide Tr A6 CG EJ
theorem Agc (s:MState) (hs:SmallM s) (hp:EK s.t0=0) (mO:s.t0.state=3) (hq:s.t0.rH.all AZ=true):A3z 146 [.ref 1 0,.agg (Af (Al (e4 0)))] [(1,.cells (Af (Az s)))] (.t .nilIface) [(1,.cells (Af (Az (CQ (AO s 0 (C3 s.t0)) s.t0.rH))))]:=by
 rw[Kq];have cp:=JR s.t0 hs.t0;rw[hp]at cp;have aQ:(s.t0.rH.map A3).length=s.t0.rH.length:=Ts ..;have fM:=hs.t0.rH;refine yG Tryz.func146 ?_
 repeat'(first|exact Au|refine yA ?_ ?_|refine⟨λh=>?_⟩|refine B9 (λ_ _ _ _=>?_)|refine AY (λ_ _ _ _ _=>?_)|refine B3 ?_|refine Dw Ad ?_|refine Du Ad ?_|refine Dv Ad Y ?_|refine BA 13 6 ?_|refine BA 38 10 ?_|refine D4 1 8 [(8,10)] [0,0,2,1,9,31,63,0,255] ?_|refine D4 33 6 [(7,1)] [0,0,2,0,1,17,63,127] ?_|fail)
 all_goals try(exfalso;simp_all;done)
 refine AW (ι:=Nat) (λk=>k<=s.t0.rH.length) (λk=>[(0,.ref 1 0),(7,.t (.int .i64 0)),(142,.t (.slice .any 3 (s.t0.rH.map A3))),(143,.t (.int .i64 ((s.t0.rH.map A3).length:Int))),(144,.t (.int .i64 k))]) (λk=>[(1,.cells (Af (Az (CQ (AO s 0 (C3 s.t0)) (s.t0.rH.take k)))))]) (λk=>s.t0.rH.length-k) 0 Ac ?_ ?_
 ·exact Bb [3,5] Aa6 Y
 rintro k hk;by_cases aC:k<s.t0.rH.length
 ·have hr:s.t0.rH[k]?=some s.t0.rH[k]:=Kv aC;have cK:AZ s.t0.rH[k]=true:=A21.1 hq _ (Agz aC);generalize s.t0.rH[k]=p at hr cK;obtain⟨hg,jX⟩:=Kg cK;have ht:s.t0.rH.take (k+1)=s.t0.rH.take k++[p]:=AB hr;obtain⟨pg,pp,po⟩:=p;simp only at hg jX;generalize hX:CQ (AO s 0 (C3 s.t0)) (s.t0.rH.take k)=X;generalize hL:s.t0.rH=L at hr aQ fM aC ht hX;clear cp hp mO hq hs cK;rcases hg with rfl|rfl<;>rcases jX with rfl|rfl|rfl
  all_goals
   repeat'(first|exact Au|refine yA ?_ ?_|refine⟨λh=>?_⟩|refine B9 (λ_ _ _ _=>?_)|refine AY (λ_ _ _ _ _=>?_)|refine B3 ?_|refine Dw Ad ?_|refine Du Ad ?_|refine Dv Ad Y ?_|refine BA 1 8 ?_|refine BA 13 6 ?_|refine BA 20 6 ?_|refine BA 26 6 ?_|refine BA 28 6 ?_|refine BA 33 6 ?_|refine BA 40 12 ?_|refine D4 38 10 [(11,1)] [0,0,2,0,8,0,32,1,129,391,1023,2047] ?_|fail)
   all_goals first
    |(refine AM (k+1) aC Aa [12] (Ag Y Y (Ag Y Y (Ag Y Y (Ag Y Y (Ag Y (by rw[A1 Aa Aa];rfl) A8))))) ?_
      rw[ht,HQ,hX];rfl)
 ·repeat'(first|exact Au|refine yA ?_ ?_|refine⟨λh=>?_⟩|refine B9 (λ_ _ _ _=>?_)|refine AY (λ_ _ _ _ _=>?_)|refine B3 ?_|refine Dw Ad ?_|refine Du Ad ?_|refine Dv Ad Y ?_|refine BA 1 8 ?_|refine BA 13 6 ?_|refine BA 20 6 ?_|refine BA 26 6 ?_|refine BA 28 6 ?_|refine BA 33 6 ?_|refine BA 38 10 ?_|refine BA 40 12 ?_|fail)
  all_goals try(exfalso;omega)
  rw[QQ (show s.t0.rH.length<=k from Aa)];exact A0 [] Y Y Y (A3l _)
theorem Agb (s:MState) (hs:SmallM s) (hp:EK s.t1=0) (mO:s.t1.state=3) (hq:s.t1.rH.all AZ=true):A3z 146 [.ref 1 0,.agg (Af (Al (e4 1)))] [(1,.cells (Af (Az s)))] (.t .nilIface) [(1,.cells (Af (Az (CQ (AO s 1 (C3 s.t1)) s.t1.rH))))]:=by
 rw[Kq];have cp:=JR s.t1 hs.t1;rw[hp]at cp;have aQ:(s.t1.rH.map A3).length=s.t1.rH.length:=Ts ..;have fM:=hs.t1.rH;refine yG Tryz.func146 ?_
 repeat'(first|exact Au|refine yA ?_ ?_|refine⟨λh=>?_⟩|refine B9 (λ_ _ _ _=>?_)|refine AY (λ_ _ _ _ _=>?_)|refine B3 ?_|refine Dw Ad ?_|refine Du Ad ?_|refine Dv Ad Y ?_|refine BA 13 6 ?_|refine BA 38 10 ?_|refine D4 1 8 [(8,10)] [0,0,2,1,9,31,63,0,255] ?_|refine D4 33 6 [(7,1)] [0,0,2,0,1,17,63,127] ?_|fail)
 all_goals try(exfalso;simp_all;done)
 refine AW (ι:=Nat) (λk=>k<=s.t1.rH.length) (λk=>[(0,.ref 1 0),(7,.t (.int .i64 0)),(142,.t (.slice .any 3 (s.t1.rH.map A3))),(143,.t (.int .i64 ((s.t1.rH.map A3).length:Int))),(144,.t (.int .i64 k))]) (λk=>[(1,.cells (Af (Az (CQ (AO s 1 (C3 s.t1)) (s.t1.rH.take k)))))]) (λk=>s.t1.rH.length-k) 0 Ac ?_ ?_
 ·exact Bb [3,5] Aa6 Y
 rintro k hk;by_cases aC:k<s.t1.rH.length
 ·have hr:s.t1.rH[k]?=some s.t1.rH[k]:=Kv aC;have cK:AZ s.t1.rH[k]=true:=A21.1 hq _ (Agz aC);generalize s.t1.rH[k]=p at hr cK;obtain⟨hg,jX⟩:=Kg cK;have ht:s.t1.rH.take (k+1)=s.t1.rH.take k++[p]:=AB hr;obtain⟨pg,pp,po⟩:=p;simp only at hg jX;generalize hX:CQ (AO s 1 (C3 s.t1)) (s.t1.rH.take k)=X;generalize hL:s.t1.rH=L at hr aQ fM aC ht hX;clear cp hp mO hq hs cK;rcases hg with rfl|rfl<;>rcases jX with rfl|rfl|rfl
  all_goals
   repeat'(first|exact Au|refine yA ?_ ?_|refine⟨λh=>?_⟩|refine B9 (λ_ _ _ _=>?_)|refine AY (λ_ _ _ _ _=>?_)|refine B3 ?_|refine Dw Ad ?_|refine Du Ad ?_|refine Dv Ad Y ?_|refine BA 1 8 ?_|refine BA 13 6 ?_|refine BA 20 6 ?_|refine BA 26 6 ?_|refine BA 28 6 ?_|refine BA 33 6 ?_|refine BA 40 12 ?_|refine D4 38 10 [(11,1)] [0,0,2,0,8,0,32,1,129,391,1023,2047] ?_|fail)
   all_goals first
    |(refine AM (k+1) aC Aa [12] (Ag Y Y (Ag Y Y (Ag Y Y (Ag Y Y (Ag Y (by rw[A1 Aa Aa];rfl) A8))))) ?_
      rw[ht,HQ,hX];rfl)
 ·repeat'(first|exact Au|refine yA ?_ ?_|refine⟨λh=>?_⟩|refine B9 (λ_ _ _ _=>?_)|refine AY (λ_ _ _ _ _=>?_)|refine B3 ?_|refine Dw Ad ?_|refine Du Ad ?_|refine Dv Ad Y ?_|refine BA 1 8 ?_|refine BA 13 6 ?_|refine BA 20 6 ?_|refine BA 26 6 ?_|refine BA 28 6 ?_|refine BA 33 6 ?_|refine BA 38 10 ?_|refine BA 40 12 ?_|fail)
  all_goals try(exfalso;omega)
  rw[QQ (show s.t1.rH.length<=k from Aa)];exact A0 [] Y Y Y (A3l _)
theorem Aga (s:MState) (hs:SmallM s) (hp:EK s.t2=0) (mO:s.t2.state=3) (hq:s.t2.rH.all AZ=true):A3z 146 [.ref 1 0,.agg (Af (Al (e4 2)))] [(1,.cells (Af (Az s)))] (.t .nilIface) [(1,.cells (Af (Az (CQ (AO s 2 (C3 s.t2)) s.t2.rH))))]:=by
 rw[Kq];have cp:=JR s.t2 hs.t2;rw[hp]at cp;have aQ:(s.t2.rH.map A3).length=s.t2.rH.length:=Ts ..;have fM:=hs.t2.rH;refine yG Tryz.func146 ?_
 repeat'(first|exact Au|refine yA ?_ ?_|refine⟨λh=>?_⟩|refine B9 (λ_ _ _ _=>?_)|refine AY (λ_ _ _ _ _=>?_)|refine B3 ?_|refine Dw Ad ?_|refine Du Ad ?_|refine Dv Ad Y ?_|refine BA 13 6 ?_|refine BA 38 10 ?_|refine D4 1 8 [(8,10)] [0,0,2,1,9,31,63,0,255] ?_|refine D4 33 6 [(7,1)] [0,0,2,0,1,17,63,127] ?_|fail)
 all_goals try(exfalso;simp_all;done)
 refine AW (ι:=Nat) (λk=>k<=s.t2.rH.length) (λk=>[(0,.ref 1 0),(7,.t (.int .i64 0)),(142,.t (.slice .any 3 (s.t2.rH.map A3))),(143,.t (.int .i64 ((s.t2.rH.map A3).length:Int))),(144,.t (.int .i64 k))]) (λk=>[(1,.cells (Af (Az (CQ (AO s 2 (C3 s.t2)) (s.t2.rH.take k)))))]) (λk=>s.t2.rH.length-k) 0 Ac ?_ ?_
 ·exact Bb [3,5] Aa6 Y
 rintro k hk;by_cases aC:k<s.t2.rH.length
 ·have hr:s.t2.rH[k]?=some s.t2.rH[k]:=Kv aC;have cK:AZ s.t2.rH[k]=true:=A21.1 hq _ (Agz aC);generalize s.t2.rH[k]=p at hr cK;obtain⟨hg,jX⟩:=Kg cK;have ht:s.t2.rH.take (k+1)=s.t2.rH.take k++[p]:=AB hr;obtain⟨pg,pp,po⟩:=p;simp only at hg jX;generalize hX:CQ (AO s 2 (C3 s.t2)) (s.t2.rH.take k)=X;generalize hL:s.t2.rH=L at hr aQ fM aC ht hX;clear cp hp mO hq hs cK;rcases hg with rfl|rfl<;>rcases jX with rfl|rfl|rfl
  all_goals
   repeat'(first|exact Au|refine yA ?_ ?_|refine⟨λh=>?_⟩|refine B9 (λ_ _ _ _=>?_)|refine AY (λ_ _ _ _ _=>?_)|refine B3 ?_|refine Dw Ad ?_|refine Du Ad ?_|refine Dv Ad Y ?_|refine BA 1 8 ?_|refine BA 13 6 ?_|refine BA 20 6 ?_|refine BA 26 6 ?_|refine BA 28 6 ?_|refine BA 33 6 ?_|refine BA 40 12 ?_|refine D4 38 10 [(11,1)] [0,0,2,0,8,0,32,1,129,391,1023,2047] ?_|fail)
   all_goals first
    |(refine AM (k+1) aC Aa [12] (Ag Y Y (Ag Y Y (Ag Y Y (Ag Y Y (Ag Y (by rw[A1 Aa Aa];rfl) A8))))) ?_
      rw[ht,HQ,hX];rfl)
 ·repeat'(first|exact Au|refine yA ?_ ?_|refine⟨λh=>?_⟩|refine B9 (λ_ _ _ _=>?_)|refine AY (λ_ _ _ _ _=>?_)|refine B3 ?_|refine Dw Ad ?_|refine Du Ad ?_|refine Dv Ad Y ?_|refine BA 1 8 ?_|refine BA 13 6 ?_|refine BA 20 6 ?_|refine BA 26 6 ?_|refine BA 28 6 ?_|refine BA 33 6 ?_|refine BA 38 10 ?_|refine BA 40 12 ?_|fail)
  all_goals try(exfalso;omega)
  rw[QQ (show s.t2.rH.length<=k from Aa)];exact A0 [] Y Y Y (A3l _)
theorem Akz (s:MState) (hs:SmallM s) (mY:Int) (oC:Bool) (sA:Int) (h1:0<=mY/\mY<3) (hp:CN (Aj s mY) oC sA=0):A3z 146 [.ref 1 0,.agg (Af (Al (e3 mY oC sA)))] [(1,.cells (Af (Az s)))] (.t .nilIface) [(1,.cells (Af (Az (AO s mY (CT (Aj s mY) oC sA)))))]:=by
 rw[QP];have cp:=Uf (Aj s mY) (hs.mY mY) oC sA;rw[hp]at cp;rcases AH h1 with rfl|rfl|rfl
 all_goals
  refine yG Tryz.func146 ?_
  repeat'(first|exact Au|refine yA ?_ ?_|refine⟨λh=>?_⟩|refine B9 (λ_ _ _ _=>?_)|refine AY (λ_ _ _ _ _=>?_)|refine B3 ?_|refine Dw Ad ?_|refine Du Ad ?_|refine Dv Ad Y ?_|refine BA 13 6 ?_|refine BA 38 10 ?_|refine D4 1 8 [(8,10)] [0,0,2,1,9,31,63,0,255] ?_|refine D4 28 6 [(7,1)] [0,0,2,0,1,17,63,127] ?_|fail)
  all_goals first
   |exact A0 [3,5] Y Y Y (A3l _)
theorem Aky (s:MState) (hs:SmallM s) (mY:Int) (h1:0<=mY/\mY<3) (hp:EK (Aj s mY)=0) (hq:(Aj s mY).rH.all AZ=true):A3z 146 [.ref 1 0,.agg (Af (Al (e4 mY)))] [(1,.cells (Af (Az s)))] (.t .nilIface) [(1,.cells (Af (Az (DY s mY))))]:=by
 unfold DY;by_cases h3:(Aj s mY).state=3
 ·rw[WU h3];rcases AH h1 with rfl|rfl|rfl
  ·exact Agc s hs hp h3 hq
  ·exact Agb s hs hp h3 hq
  ·exact Aga s hs hp h3 hq
 ·rw[Ug h3];rw[Kq];have cp:=JR (Aj s mY) (hs.mY mY);rw[hp]at cp;rcases AH h1 with rfl|rfl|rfl
  all_goals
   refine yG Tryz.func146 ?_
   repeat'(first|exact Au|refine yA ?_ ?_|refine⟨λh=>?_⟩|refine B9 (λ_ _ _ _=>?_)|refine AY (λ_ _ _ _ _=>?_)|refine B3 ?_|refine Dw Ad ?_|refine Du Ad ?_|refine Dv Ad Y ?_|refine BA 13 6 ?_|refine BA 38 10 ?_|refine D4 1 8 [(8,10)] [0,0,2,1,9,31,63,0,255] ?_|refine D4 33 6 [(7,1)] [0,0,2,0,1,17,63,127] ?_|fail)
   all_goals first
    |(exfalso;simp_all[Aj];done)
    |exact A0 [3,5] Y Y Y (A3l _)
theorem Aku (s:MState) (hs:SmallM s) (mY:Int) (oC:Bool) (sA:Int) (h1:0<=mY/\mY<3) (h2:(0<=sA/\sA<=20)/\(oC=true->sA=0)) (hp:CN (Aj s mY) oC sA=0) (hm:Bv s=true) (fN:Bv (AO s mY (CT (Aj s mY) oC sA))=true):A3z 100 [.agg (Af (Az s)),.agg (Af (Al (e3 mY oC sA)))] [] (.tuple [.agg (Af (Az (AO s mY (CT (Aj s mY) oC sA)))),.t (.int .i64 0)]) []:=by
 have dS:=hs.set mY (Ae5 (hs.mY mY) oC sA);have c0:=DK s hs.t0 hs.t1 hs.t2;have c1:=DK _ dS.t0 dS.t1 dS.t2;rw[hm]at c0;rw[fN]at c1;have cy:=Adx mY oC sA h1 h2;have co:=QK s hs.t0 hs.t1 hs.t2;have cv:=Akz s hs mY oC sA h1 hp;generalize AO s mY (CT (Aj s mY) oC sA)=S' at c1 cv⊢;refine yF Tryz.func100 ?_
 repeat'(first|exact Au|refine yA ?_ ?_|refine⟨λh=>?_⟩|refine B9 (λ_ _ _ _=>?_)|refine AY (λ_ _ _ _ _=>?_)|refine B3 ?_|refine Dw Ad ?_|refine Du Ad ?_|refine Dv Ad Y ?_|refine BT [(12,1)] [(1,12)] cv ?_|fail)
 all_goals first
  |(exfalso;simp_all;done)
  |exact Ah Y (A3m Y)
theorem Akt (s:MState) (hs:SmallM s) (mY:Int) (h1:0<=mY/\mY<3) (hp:EK (Aj s mY)=0) (hq:(Aj s mY).rH.all AZ=true) (hm:Bv s=true) (fN:Bv (DY s mY)=true):A3z 100 [.agg (Af (Az s)),.agg (Af (Al (e4 mY)))] [] (.tuple [.agg (Af (Az (DY s mY))),.t (.int .i64 0)]) []:=by
 have dS:=hs.compl mY;have c0:=DK s hs.t0 hs.t1 hs.t2;have c1:=DK _ dS.t0 dS.t1 dS.t2;rw[hm]at c0;rw[fN]at c1;have cy:=Adw mY h1;have co:=QK s hs.t0 hs.t1 hs.t2;have cv:=Aky s hs mY h1 hp hq;generalize DY s mY=S' at c1 cv⊢;refine yF Tryz.func100 ?_
 repeat'(first|exact Au|refine yA ?_ ?_|refine⟨λh=>?_⟩|refine B9 (λ_ _ _ _=>?_)|refine AY (λ_ _ _ _ _=>?_)|refine B3 ?_|refine Dw Ad ?_|refine Du Ad ?_|refine Dv Ad Y ?_|refine BT [(12,1)] [(1,12)] cv ?_|fail)
 all_goals first
  |(exfalso;simp_all;done)
  |exact Ah Y (A3m Y)
theorem Atm {P:Program} {n id:Nat} {ops:Array Oper} {d:Bool} {env:A2} {σ:St} {K:Exit->A2->St->Prop} (b:Nat) (hl:(Go.Am.look σ b).isSome=true) (hb:Aum b=false) (h:Tr P n (.region id ops d) (Gv b env) (CX b σ) K):Tr P n (.region id ops d) env σ K:=Tr.killOne b hb h
def GQ (i:Image) (a b c:Coord):Image:={i with m:={i.m with t0:=a,t1:=b,t2:=c}}
def Gi (i:Image):Coord:=DT i.m.t0 (BF i i.m.t0.lO)
def Rw (i:Image):Coord:=DT i.m.t1 (BF i i.m.t1.lO)
def Xe (i:Image):Coord:=DT i.m.t2 (BF i i.m.t2.lO)
theorem Adg {c:Coord} (h:SmallC c) (l:List Int) (hl:l.length<=1000000):SmallC (DT c l):=by
 unfold DT
 repeat' split
 all_goals first
  |exact JV
  |exact⟨hl,h.rH⟩
theorem Iq (i:Image) (lO:Int):(BF i lO).length<=3:=by
 unfold BF;repeat' split
 all_goals simp
structure PlaceOk (i:Image):Prop where
 e0:H4 i.m.t0 (BF i i.m.t0.lO)=0
 e1:H4 i.m.t1 (BF i i.m.t1.lO)=0
 e2:H4 i.m.t2 (BF i i.m.t2.lO)=0
theorem VN (i:Image) (hs:SmallI i) (hp:PlaceOk i):A3z 108 [.agg (Af (Ao i))] [] (.tuple [.agg (Af (Ao (GQ i (Gi i) (Rw i) (Xe i)))),.t (.int .i64 0)]) []:=by
 have s0:SmallI (GQ i (Gi i) i.m.t1 i.m.t2):=⟨hs.p0,hs.p1,hs.p2,Adg hs.t0 _ (by have:=Iq i i.m.t0.lO;omega),hs.t1,hs.t2⟩
 have s1:SmallI (GQ i (Gi i) (Rw i) i.m.t2):=⟨hs.p0,hs.p1,hs.p2,s0.t0,Adg hs.t1 _ (by have:=Iq i i.m.t1.lO;omega),hs.t2⟩
 have w0:=Jw i i.m.t0.lO hs;have w1:=Jw (GQ i (Gi i) i.m.t1 i.m.t2) i.m.t1.lO s0;have w2:=Jw (GQ i (Gi i) (Rw i) i.m.t2) i.m.t2.lO s1;have p0:=M8 i.m.t0 hs.t0 (BF i i.m.t0.lO) (by have:=Iq i i.m.t0.lO;omega);have p1:=M8 i.m.t1 hs.t1 (BF i i.m.t1.lO) (by have:=Iq i i.m.t1.lO;omega);have p2:=M8 i.m.t2 hs.t2 (BF i i.m.t2.lO) (by have:=Iq i i.m.t2.lO;omega);rw[hp.e0]at p0;rw[hp.e1]at p1;rw[hp.e2]at p2;have dO:IntKind.i64.wrap (0+1)=1:=by decide+kernel
 have dD:IntKind.i64.wrap (1+1)=2:=by decide+kernel
 have dZ:IntKind.i64.wrap (2+1)=3:=by decide+kernel
 refine yF Tryz.func108 ?_
 repeat'(first|exact Au|refine Atm (id:=5) 12 Y Y ?_|rw[dO]|rw[dD]|rw[dZ]|refine yC ?_ ?_|refine⟨λh=>?_⟩|refine D4 5 11 [(10,12)] [0,0,0,4,14,31,63,127,127,0,767,2047] ?_|refine B6 5 ?_|refine BH ?_|fail)
 all_goals first
  |exact Ah Y (A3m Y)
def Bx (s:Step):List T:=.slice .any 4 (s.w.map BE)::Ao s.i
theorem GS (i:Image) (w:List Wr) (hs:SmallI i) (hp:PlaceOk i):A3z 72 [.agg (Af (Ao i)),.t (.slice .any 4 (w.map BE))] [] (.tuple [.agg (Af (Bx ⟨w,GQ i (Gi i) (Rw i) (Xe i)⟩)),.t .nilIface]) []:=by
 have cp:=VN i hs hp;refine yF Tryz.func72 ?_
 repeat'(first|exact Au|refine yC ?_ ?_|refine⟨λh=>?_⟩|fail)
 all_goals first
  |exact Ah Y (A3m Y)
def Dy (i:Image) (m:MState):Image:={i with m:=m}
theorem VP (i:Image) (ht:i.vQ=0\/i.vQ=1) (hs:SmallM i.m) (mY:Int) (oC:Bool) (sA:Int) (h1:0<=mY/\mY<3) (h2:(0<=sA/\sA<=20)/\(oC=true->sA=0)) (hp:CN (Aj i.m mY) oC sA=0) (hm:Bv i.m=true) (fN:Bv (AO i.m mY (CT (Aj i.m mY) oC sA))=true):A3z 69 [.ref 1 0,.agg (Af (Al (e3 mY oC sA)))] [(1,.cells (Af (Ao i)))] (.tuple [.row 58 4 0 2,.t .nilIface]) [(58,.grow 4 ((Gn i.vQ (JT mY oC sA)).map BE)),(1,.cells (Af (Ao (Dy i (AO i.m mY (CT (Aj i.m mY) oC sA))))))]:=by
 have cn:=Aku i.m hs mY oC sA h1 h2 hp hm fN;have cp:=VU i.vQ ht (e3 mY oC sA) (JT mY oC sA) (Aqp h1 h2.1) (Aeo mY oC sA h1 h2);generalize AO i.m mY (CT (Aj i.m mY) oC sA)=S' at cn⊢;refine yG Tryz.func69 ?_
 repeat'(first|refine Ew Ai [] [(102,58)] Y Y Y Y Y (cp.args ⟨A3l _,A9,trivial⟩) Y Y Y Y Y ?_|exact Au|refine yC ?_ ?_|refine⟨λh=>?_⟩|refine D4 1 11 [(10,12)] [0,1,3,7,0,31,63,127,127,0,767,2047] ?_|refine Mz (id:=4) (m:=11) (ms:=[0,1,3,7,0,16,63,127,255,255,511,2047]) Ai [] 6 Ab Y Y Y Y Ab Ab Ab Y Y Y Y ?_|fail)
 all_goals first
  |exact A0 [3,6] Y Y Y (A3l _)
theorem VO (i:Image) (ht:i.vQ=0\/i.vQ=1) (hs:SmallM i.m) (mY:Int) (h1:0<=mY/\mY<3) (hp:EK (Aj i.m mY)=0) (hq:(Aj i.m mY).rH.all AZ=true) (hm:Bv i.m=true) (fN:Bv (DY i.m mY)=true):A3z 69 [.ref 1 0,.agg (Af (Al (e4 mY)))] [(1,.cells (Af (Ao i)))] (.tuple [.row 58 4 0 2,.t .nilIface]) [(58,.grow 4 ((Gn i.vQ (JS mY)).map BE)),(1,.cells (Af (Ao (Dy i (DY i.m mY)))))]:=by
 have cn:=Akt i.m hs mY h1 hp hq hm fN;have cp:=VU i.vQ ht (e4 mY) (JS mY) (Aqn h1) (Aen mY h1);generalize DY i.m mY=S' at cn⊢;refine yG Tryz.func69 ?_
 repeat'(first|refine Ew Ai [] [(102,58)] Y Y Y Y Y (cp.args ⟨A3l _,A9,trivial⟩) Y Y Y Y Y ?_|exact Au|refine yC ?_ ?_|refine⟨λh=>?_⟩|refine D4 1 11 [(10,12)] [0,1,3,7,0,31,63,127,127,0,767,2047] ?_|refine Mz (id:=4) (m:=11) (ms:=[0,1,3,7,0,16,63,127,255,255,511,2047]) Ai [] 6 Ab Y Y Y Y Ab Ab Ab Y Y Y Y ?_|fail)
 all_goals first
  |exact A0 [3,6] Y Y Y (A3l _)
