/- Lemmas toward the law; each names its conditions. -/
import Derived.Test.YtppffhlbcgpgdaaGreatDoorYK2
set_option linter.all false
set_option maxRecDepth 100000
set_option maxHeartbeats 8000000
namespace Go.Proofs.YtppffhlbcgpgdaaGreatDoor
open Go.Am
attribute [local irreducible] Decidable.decide Tr A6 CG EJ
theorem Aht (s m:Int):A3z 98 [.t (.int .i8 s),.t (.int .i8 m)] [] (.t (.bool (Ci s m))) []:=by
 refine yF Tryz.func98 ?_
 repeat'(first|exact Au|refine yC ?_ ?_|refine⟨λh=>?_⟩|fail)
 all_goals(refine Ah Y (BL ?_);simp_all[Ci];try rfl)
theorem GI (l:List Int) (hl:l.length<=1000000):A3z 68 [.t (.slice .any 1 (l.map Cy))] [] (.t (.slice .any 1 (l.map Cy))) []:=by
 refine yF Tryz.func68 ?_;have aQ:(l.map Cy).length=l.length:=Ts ..
 repeat'(first|exact Au|refine PA (λb hb=>?_)|refine yC ?_ ?_|refine⟨λh=>?_⟩|refine KO Ai Y Y Y Y Y Y Y Y Y Y Y Y Y (by simp;omega) ?_|fail)
 ·refine Ah Y ?_;have h0:=hb h;rw[h0];exact Ay
 ·refine Ah Y (A3m ?_);simp[BG];exact QQ Ac
theorem Gy (l:List Pend) (hl:l.length<=1000000):A3z 99 [.t (.slice .any 3 (l.map A3))] [] (.t (.slice .any 3 (l.map A3))) []:=by
 refine yF Tryz.func99 ?_;have aQ:(l.map A3).length=l.length:=Ts ..
 repeat'(first|exact Au|refine PA (λb hb=>?_)|refine yC ?_ ?_|refine⟨λh=>?_⟩|refine KO Ai Y Y Y Y Y Y Y Y Y Y Y Y Y (by simp;omega) ?_|fail)
 ·refine Ah Y ?_;have h0:=hb h;rw[h0];exact Ay
 ·refine Ah Y (A3m ?_);simp[BG];exact QQ Ac
theorem Ny (c:Coord) (hc:SmallC c):A3z 67 [.agg (Af (AN c))] [] (.agg (Af (AN c))) []:=by
 have c1:=GI c.parts hc.parts;have c2:=Gy c.rH hc.rH;refine yF Tryz.func67 ?_
 repeat'(first|exact Au|refine yC ?_ ?_|refine⟨λh=>?_⟩|fail)
 all_goals(refine Ah Y ?_;exact AA)
theorem KU (c:Coord) (hc:SmallC c):A3z 61 [.agg (Af (AN c))] [] (.t (.bool (BD c))) []:=by
 have cr:=Abn c hc;have cs:=(Ud c BX hc).args (show Fv [AV.agg (Af (AN c)),AV.agg (Af Vy.zero)] [AV.agg (Af (AN c)),AV.agg (Af (AN BX))]from⟨A3l _,AC (show Fv _ _ from⟨A3l _,A3l _,A3l _,A3l _,A3l _,Ay,Ay,A3l _,trivial⟩),trivial⟩);have oW:(((c.parts.map Cy).length:Int)=0)↔c.parts=[]:=Ac;have kW:(((c.rH.map A3).length:Int)=0)↔c.rH=[]:=Ac;unfold BD;generalize DJ c=R at cr⊢;generalize decide (c=BX)=Z at cs⊢;refine yF Tryz.func61 ?_
 repeat'(first|exact Au|refine yC ?_ ?_|refine⟨λh=>?_⟩|refine BZ cs ?_|fail)
 all_goals refine Ah Y (BL ?_)
 all_goals simp only[oW,kW]at*
 all_goals first
  |(simp_all;done)
  |(simp_all;omega)
  |(simp_all;rfl)
theorem Avo:TR 130 1:=Zp An2
theorem Au0:Aib 130 1:=Aln
theorem Dj (i:T) (n:Int):A3z 66 [.t (.iface 130 (.ptr [i,.int .i64 n]))] [] (.t (.int .i64 n)) []:=by
 have ci:=Yr Au0 [i,.int .i64 n] n 2 Y;by_cases h2:n=2
 ·subst h2;rw[A32 Y]at ci;refine yF Tryz.func66 ?_
  repeat'(first|exact Au|refine yC ?_ ?_|refine⟨λh=>?_⟩|fail)
  all_goals exact Ah Y (A3m Y)
 ·rw[A44 h2]at ci;refine yF Tryz.func66 ?_
  repeat'(first|exact Au|refine yC ?_ ?_|refine⟨λh=>?_⟩|refine BT [(6,1)] [(1,6)] (Qy Avo [i,.int .i64 n] n 0 Y) ?_|fail)
  all_goals exact Ah Y (A3m Y)
def Rj (w:Bs) (n:Int):T:=.iface 130 (.ptr [.str w,.int .i64 n])
def FG (c:Coord) (m:Int) (fit:Bool):T:=if fit=false\/BD c=false then Rj [97,110,32,97,114,103,117,109,101,110,116] 2 else if Ci c.state m=false then Rj [97,32,115,116,97,116,101] 180 else .nilIface
theorem G6 (c:Coord) (hc:SmallC c) (m:Int) (fit:Bool):A3z 65 [.agg (Af (AN c)),.t (.int .i8 m),.t (.bool fit)] [] (.t (FG c m fit)) []:=by
 have cm:=KU c hc;have cb:=Aht c.state m;unfold FG;generalize BD c=M at cm⊢;generalize Ci c.state m=B at cb⊢;cases fit<;>cases M<;>cases B
 all_goals
  refine yF Tryz.func65 ?_
  repeat'(first|exact Au|refine Cr 15 30 Y Y Y Y Y ?_|refine Cr 23 46 Y Y Y Y Y ?_|refine yC ?_ ?_|refine⟨λh=>?_⟩|fail)
  all_goals try(exfalso;simp_all;done)
  all_goals exact Ah Y (A3m (by simp[Rj]))
theorem C2:Aq (AV.agg (Af Vy.zero)) (AV.agg (Af (AN BX))):=AC (show Fv _ _ from⟨A3l _,A3l _,A3l _,A3l _,A3l _,Ay,Ay,A3l _,trivial⟩)
theorem Fm {c:Coord} (h:BD c=true) (h0:c.state≠0):DJ c=true:=by
 unfold BD at h;simp only[h0,ZF]at h
 repeat' split at h
 all_goals simp_all
theorem Iz {c:Coord} (h:DJ c=true):(1<=c.lO/\c.lO<=8)/\(0<=c.lT/\c.lT<=100)/\(1<=c.mZ/\c.mZ<=20)/\(0<=c.vZ/\c.vZ<=1048576):=by
 unfold DJ at h;simp only[Qp,Uj]at h;exact h.2.1
theorem Ar8 {s:Int} (h:Ci s 3=true):s=3\/s=4:=by
 unfold Ci at h
 repeat' split at h
 all_goals simp_all
theorem JR (c:Coord) (hc:SmallC c):A3z 213 [.agg (Af (AN c))] [] (.tuple [.agg (Af (AN (C3 c))),.t (.int .i64 (EK c))]) []:=by
 have cc:=G6 c hc 3 true;unfold FG at cc;by_cases hm:BD c=true
 ·by_cases hb:Ci c.state 3=true
  ·have e:EK c=0:=by simp[EK,ER,hm,hb]
   simp only[hm,hb,A50,or_self,ZF]at cc;rw[e];have hs:=Ar8 hb;have hn:=Iz (Fm hm Aa);have ec:C3 c=if 0<c.sA then⟨1,c.lO,c.lT+1,c.sA,0,[],[],0⟩else⟨if c.state=4 then 6 else 5,c.lO,c.lT,c.mZ,0,[],[],0⟩:=by simp[C3,e]
   rw[ec];have hw:IntKind.i64.wrap (c.lT+1)=c.lT+1:=A1 Aa Aa;by_cases ht:0<c.sA
   ·rw[WU ht];refine yF Tryz.func213 ?_
    repeat'(first|exact Au|refine yC ?_ ?_|refine⟨λh=>?_⟩|refine D4 8 9 [(6,10),(8,10)] [0,1,3,0,8,0,32,103,231,511,1023] ?_|fail)
    all_goals try(exfalso;omega)
    all_goals(refine Ah Y ?_;simp only[hw];exact AA)
   ·rw[Ug ht];rcases hs with hs|hs
    all_goals
     simp only[hs,Xs,ZF,Int.reduceEq];refine yF Tryz.func213 ?_
     repeat'(first|exact Au|refine yC ?_ ?_|refine⟨λh=>?_⟩|fail)
     all_goals try(exfalso;omega)
     all_goals(refine Ah Y ?_;exact AA)
  ·have e:EK c=180:=by simp[EK,ER,hm,hb]
   have ec:C3 c=BX:=by simp[C3,e]
   simp only[hm,hb,A50,or_self,ZF,Xs,A8a]at cc;rw[e,ec];have cN:Ci c.state 3=false:=by simpa using hb
   try simp only[cN,Xs]at cc
   have cd:=Dj (.str [97,32,115,116,97,116,101]) 180;refine yF Tryz.func213 ?_
   repeat'(first|exact Au|refine yC ?_ ?_|refine⟨λh=>?_⟩|fail)
   all_goals(refine Ah Y ?_;first|exact A3l _|exact As ⟨C2,A3l _,trivial⟩)
 ·have fN:BD c=false:=by simpa using hm
  have e:EK c=2:=by simp[EK,ER,fN]
  have ec:C3 c=BX:=by simp[C3,e]
  simp only[fN,or_true,Xs]at cc;rw[e,ec];have cd:=Dj (.str [97,110,32,97,114,103,117,109,101,110,116]) 2;refine yF Tryz.func213 ?_
  repeat'(first|exact Au|refine yC ?_ ?_|refine⟨λh=>?_⟩|fail)
  all_goals(refine Ah Y ?_;first|exact A3l _|exact As ⟨C2,A3l _,trivial⟩)
theorem WT (c:Coord) (hc:SmallC c) (sA:Int):A3z 42 [.agg (Af (AN c)),.t (.bool true),.t (.int .i64 sA)] [] (.tuple [.agg (Af (AN (CT c true sA))),.t (.int .i64 (CN c true sA))]) []:=by
 have ef:decide ((0<=sA/\sA<=20)/\(true=true->sA=0))=decide ((0<=sA/\sA<=20)/\sA=0):=Ac;have key: ∀f,f=decide ((0<=sA/\sA<=20)/\sA=0)->A3z 65 [.agg (Af (AN c)),.t (.int .i8 2),.t (.bool f)] [] (.t (FG c 2 (decide ((0<=sA/\sA<=20)/\sA=0)))) []:=λf hf=>by subst hf;exact G6 c hc 2 _
 have hE:ER c 2 (decide ((0<=sA/\sA<=20)/\(true=true->sA=0)))=ER c 2 (decide ((0<=sA/\sA<=20)/\sA=0)):=by rw[ef]
 by_cases ha:decide ((0<=sA/\sA<=20)/\sA=0)=false\/BD c=false
 ·have e:CN c true sA=2:=by unfold CN;rw[hE,show ER c 2 _=2 from WU ha];simp
  have ec:CT c true sA=BX:=by simp[CT,e]
  simp only[FG,WU ha]at key;rw[e,ec];have cd:=Dj (.str [97,110,32,97,114,103,117,109,101,110,116]) 2;refine yF Tryz.func42 ?_
  repeat'(first|exact Au|refine yC ?_ ?_|refine⟨λh=>?_⟩|refine Ab0 ?_ (c:=key _ (by first|exact bI Aa|exact bT Aa|exact bF Aa))|fail)
  all_goals try(exfalso;omega)
  all_goals(refine Ah Y ?_;first|exact A3l _|exact As ⟨C2,A3l _,trivial⟩)
 ·have hm:BD c=true:=by
   cases h:BD c with
   |true=>rfl
   |false=>exact absurd (.inr h) ha
  have hf:((0<=sA/\sA<=20)/\sA=0):=by
   cases h:decide ((0<=sA/\sA<=20)/\sA=0)with
   |true=>simpa using h
   |false=>exact absurd (.inl h) ha
  cases hb:Ci c.state 2 with
  |false=>
   have e:CN c true sA=180:=by unfold CN;rw[hE,show ER c 2 _=180 from(Ug ha).trans (WU hb)];simp
   have ec:CT c true sA=BX:=by simp[CT,e]
   simp only[FG,Ug ha,hb,Xs]at key;rw[e,ec];have cd:=Dj (.str [97,32,115,116,97,116,101]) 180;refine yF Tryz.func42 ?_
   repeat'(first|exact Au|refine yC ?_ ?_|refine⟨λh=>?_⟩|refine Ab0 ?_ (c:=key _ (by first|exact bI Aa|exact bT Aa|exact bF Aa))|fail)
   all_goals try(exfalso;omega)
   all_goals(refine Ah Y ?_;first|exact A3l _|exact As ⟨C2,A3l _,trivial⟩)
  |true=>
   have mN:ER c 2 (decide ((0<=sA/\sA<=20)/\sA=0))=0:=(Ug ha).trans (Ug (by rw[hb];decide));simp only[FG,Ug ha,hb,A50,ZF]at key;by_cases hx:0<sA/\100<=c.lT
   ·have e:CN c true sA=102:=by unfold CN;rw[hE,mN,WU hx];simp
    have ec:CT c true sA=BX:=by simp[CT,e]
    rw[e,ec];have cd:=Dj (.str [97,110,32,101,112,111,99,104]) 102;refine yF Tryz.func42 ?_
    repeat'(first|exact Au|refine Cr 40 80 Y Y Y Y Y ?_|refine yC ?_ ?_|refine⟨λh=>?_⟩|refine Ab0 ?_ (c:=key _ (by first|exact bI Aa|exact bT Aa|exact bF Aa))|fail)
    all_goals try(exfalso;omega)
    all_goals(refine Ah Y ?_;first|exact A3l _|exact As ⟨C2,A3l _,trivial⟩)
   ·have e:CN c true sA=0:=by unfold CN;rw[hE,mN,Ug hx];simp
    have ec:CT c true sA={c with state:=3,sA:=sA}:=by simp[CT,e]
    rw[e,ec];have co:=Ny c hc;refine yF Tryz.func42 ?_
    repeat'(first|exact Au|refine Cr 40 80 Y Y Y Y Y ?_|refine yC ?_ ?_|refine⟨λh=>?_⟩|refine Ab0 ?_ (c:=key _ (by first|exact bI Aa|exact bT Aa|exact bF Aa))|fail)
    all_goals try(exfalso;omega)
    all_goals(refine Ah Y ?_;exact AA)
theorem V4 (c:Coord) (hc:SmallC c) (sA:Int):A3z 42 [.agg (Af (AN c)),.t (.bool false),.t (.int .i64 sA)] [] (.tuple [.agg (Af (AN (CT c false sA))),.t (.int .i64 (CN c false sA))]) []:=by
 have ef:decide ((0<=sA/\sA<=20)/\(false=true->sA=0))=decide (0<=sA/\sA<=20):=Ac;have key: ∀f,f=decide (0<=sA/\sA<=20)->A3z 65 [.agg (Af (AN c)),.t (.int .i8 2),.t (.bool f)] [] (.t (FG c 2 (decide (0<=sA/\sA<=20)))) []:=λf hf=>by subst hf;exact G6 c hc 2 _
 have hE:ER c 2 (decide ((0<=sA/\sA<=20)/\(false=true->sA=0)))=ER c 2 (decide (0<=sA/\sA<=20)):=by rw[ef]
 by_cases ha:decide (0<=sA/\sA<=20)=false\/BD c=false
 ·have e:CN c false sA=2:=by unfold CN;rw[hE,show ER c 2 _=2 from WU ha];simp
  have ec:CT c false sA=BX:=by simp[CT,e]
  simp only[FG,WU ha]at key;rw[e,ec];have cd:=Dj (.str [97,110,32,97,114,103,117,109,101,110,116]) 2;refine yF Tryz.func42 ?_
  repeat'(first|exact Au|refine yC ?_ ?_|refine⟨λh=>?_⟩|refine Ab0 ?_ (c:=key _ (by first|exact bI Aa|exact bT Aa|exact bF Aa))|fail)
  all_goals try(exfalso;omega)
  all_goals(refine Ah Y ?_;first|exact A3l _|exact As ⟨C2,A3l _,trivial⟩)
 ·have hm:BD c=true:=by
   cases h:BD c with
   |true=>rfl
   |false=>exact absurd (.inr h) ha
  have hf:(0<=sA/\sA<=20):=by
   cases h:decide (0<=sA/\sA<=20)with
   |true=>simpa using h
   |false=>exact absurd (.inl h) ha
  cases hb:Ci c.state 2 with
  |false=>
   have e:CN c false sA=180:=by unfold CN;rw[hE,show ER c 2 _=180 from(Ug ha).trans (WU hb)];simp
   have ec:CT c false sA=BX:=by simp[CT,e]
   simp only[FG,Ug ha,hb,Xs]at key;rw[e,ec];have cd:=Dj (.str [97,32,115,116,97,116,101]) 180;refine yF Tryz.func42 ?_
   repeat'(first|exact Au|refine yC ?_ ?_|refine⟨λh=>?_⟩|refine Ab0 ?_ (c:=key _ (by first|exact bI Aa|exact bT Aa|exact bF Aa))|fail)
   all_goals try(exfalso;omega)
   all_goals(refine Ah Y ?_;first|exact A3l _|exact As ⟨C2,A3l _,trivial⟩)
  |true=>
   have mN:ER c 2 (decide (0<=sA/\sA<=20))=0:=(Ug ha).trans (Ug (by rw[hb];decide));simp only[FG,Ug ha,hb,A50,ZF]at key;by_cases hx:0<sA/\100<=c.lT
   ·have e:CN c false sA=102:=by unfold CN;rw[hE,mN,WU hx];simp
    have ec:CT c false sA=BX:=by simp[CT,e]
    rw[e,ec];have cd:=Dj (.str [97,110,32,101,112,111,99,104]) 102;refine yF Tryz.func42 ?_
    repeat'(first|exact Au|refine Cr 40 80 Y Y Y Y Y ?_|refine yC ?_ ?_|refine⟨λh=>?_⟩|refine Ab0 ?_ (c:=key _ (by first|exact bI Aa|exact bT Aa|exact bF Aa))|fail)
    all_goals try(exfalso;omega)
    all_goals(refine Ah Y ?_;first|exact A3l _|exact As ⟨C2,A3l _,trivial⟩)
   ·have e:CN c false sA=0:=by unfold CN;rw[hE,mN,Ug hx];simp
    have ec:CT c false sA={c with state:=4,sA:=sA}:=by simp[CT,e]
    rw[e,ec];have co:=Ny c hc;refine yF Tryz.func42 ?_
    repeat'(first|exact Au|refine Cr 40 80 Y Y Y Y Y ?_|refine yC ?_ ?_|refine⟨λh=>?_⟩|refine Ab0 ?_ (c:=key _ (by first|exact bI Aa|exact bT Aa|exact bF Aa))|fail)
    all_goals try(exfalso;omega)
    all_goals(refine Ah Y ?_;exact AA)
theorem Ag4 (l:List Int):BG 56 1 (l.map Cy) (.row 56 1 0 (l.map Cy).length)=.t (.slice .any 1 (l.map Cy)):=by
 simp[BG];exact QQ Ac
theorem M8 (c:Coord) (hc:SmallC c) (l:List Int) (hl:l.length<=1000000):A3z 161 [.agg (Af (AN c)),.t (.slice .any 1 (l.map Cy))] [] (.tuple [.agg (Af (AN (DT c l))),.t (.int .i64 (H4 c l))]) []:=by
 have cm:=KU c hc;have ca:=Q0 l hl;have co:=Ny c hc;have dV:=Ag4 l;have oW:(((l.map Cy).length:Int)=0)↔l=[]:=Ac;have kW:(((c.rH.map A3).length:Int)=0)↔c.rH=[]:=Ac;have aQ:(l.map Cy).length=l.length:=Ts ..;by_cases h1:BD c=false\/CD l=false
 ·have e:H4 c l=2:=WU h1;have ec:DT c l=BX:=by unfold DT;rw[e];simp
  rw[e,ec];generalize BD c=M at cm h1;generalize CD l=A at ca h1;refine yF Tryz.func161 ?_
  repeat'(first|exact Au|refine yC ?_ ?_|refine⟨λh=>?_⟩|fail)
  all_goals try(exfalso;simp_all;done)
  all_goals(refine Ah Y ?_;first|exact A3l _|exact As ⟨C2,A3l _,trivial⟩)
 ·have hm:BD c=true:=by
   cases h:BD c with
   |true=>rfl
   |false=>exact absurd (.inl h) h1
  have hp:CD l=true:=by
   cases h:CD l with
   |true=>rfl
   |false=>exact absurd (.inr h) h1
  rw[hm]at cm;rw[hp]at ca;by_cases h2:c.state=0/\l≠[]
  ·have e:H4 c l=180:=(Ug h1).trans (WU h2);have ec:DT c l=BX:=by unfold DT;rw[e];simp
   rw[e,ec];have hn: ¬((l.map Cy).length:Int)=0:=λx=>h2.2 (oW.1 x);have oH:=h2.1;refine yF Tryz.func161 ?_
   repeat'(first|exact Au|refine yC ?_ ?_|refine⟨λh=>?_⟩|fail)
   all_goals try(exfalso;omega)
   all_goals(refine Ah Y ?_;first|exact A3l _|exact As ⟨C2,A3l _,trivial⟩)
  ·have e:H4 c l=0:=(Ug h1).trans (Ug h2)
   have ec:DT c l=(if c.state=3\/c.state=4 then{c with parts:=l}else if c.state=2 then(if l=[]/\c.rH=[]then{c with parts:=l,state:=1,vZ:=0}else{c with parts:=l})else if l≠[]then{c with parts:=l,state:=2}else{c with parts:=l}):=by
    unfold DT;rw[e];simp
   rw[e,ec];by_cases hz:l=[]
   ·have jC:((l.map Cy).length:Int)=0:=oW.2 hz;by_cases s34:c.state=3\/c.state=4
    ·rw[WU s34];refine yF Tryz.func161 ?_
     repeat'(first|exact Au|refine yC ?_ ?_|refine⟨λh=>?_⟩|refine FA 28 56 Y Y Y dV ?_|fail)
     all_goals try(exfalso;omega)
     all_goals refine Ah Y ?_
     all_goals(repeat'(first|exact A3l _|exact Ay|exact A9|exact trivial|refine AC ?_|refine As ?_|refine And.intro ?_ ?_))
     all_goals exact A3m dV
    ·rw[Ug s34];by_cases s2:c.state=2
     ·rw[WU s2];by_cases qK:c.rH=[]
      ·rw[WU ⟨hz,qK⟩];have rR:((c.rH.map A3).length:Int)=0:=kW.2 qK;refine yF Tryz.func161 ?_
       repeat'(first|exact Au|refine yC ?_ ?_|refine⟨λh=>?_⟩|refine FA 28 56 Y Y Y dV ?_|fail)
       all_goals try(exfalso;omega)
       all_goals refine Ah Y ?_
       all_goals(repeat'(first|exact A3l _|exact Ay|exact A9|exact trivial|refine AC ?_|refine As ?_|refine And.intro ?_ ?_))
       all_goals exact A3m dV
      ·rw[Ug (λx=>qK x.2)];have rR: ¬((c.rH.map A3).length:Int)=0:=λx=>qK (kW.1 x);refine yF Tryz.func161 ?_
       repeat'(first|exact Au|refine yC ?_ ?_|refine⟨λh=>?_⟩|refine FA 28 56 Y Y Y dV ?_|fail)
       all_goals try(exfalso;omega)
       all_goals refine Ah Y ?_
       all_goals(repeat'(first|exact A3l _|exact Ay|exact A9|exact trivial|refine AC ?_|refine As ?_|refine And.intro ?_ ?_))
       all_goals exact A3m dV
     ·rw[Ug s2,Ug (λx=>x hz)];refine yF Tryz.func161 ?_
      repeat'(first|exact Au|refine yC ?_ ?_|refine⟨λh=>?_⟩|refine FA 28 56 Y Y Y dV ?_|fail)
      all_goals try(exfalso;omega)
      all_goals refine Ah Y ?_
      all_goals(repeat'(first|exact A3l _|exact Ay|exact A9|exact trivial|refine AC ?_|refine As ?_|refine And.intro ?_ ?_))
      all_goals exact A3m dV
   ·have jC: ¬((l.map Cy).length:Int)=0:=λx=>hz (oW.1 x);have s0: ¬c.state=0:=λx=>h2 ⟨x,hz⟩;by_cases s34:c.state=3\/c.state=4
    ·rw[WU s34];refine yF Tryz.func161 ?_
     repeat'(first|exact Au|refine yC ?_ ?_|refine⟨λh=>?_⟩|refine FA 28 56 Y Y Y dV ?_|fail)
     all_goals try(exfalso;omega)
     all_goals refine Ah Y ?_
     all_goals(repeat'(first|exact A3l _|exact Ay|exact A9|exact trivial|refine AC ?_|refine As ?_|refine And.intro ?_ ?_))
     all_goals exact A3m dV
    ·rw[Ug s34];by_cases s2:c.state=2
     ·rw[WU s2,Ug (λx=>hz x.1)];refine yF Tryz.func161 ?_
      repeat'(first|exact Au|refine yC ?_ ?_|refine⟨λh=>?_⟩|refine FA 28 56 Y Y Y dV ?_|fail)
      all_goals try(exfalso;omega)
      all_goals refine Ah Y ?_
      all_goals(repeat'(first|exact A3l _|exact Ay|exact A9|exact trivial|refine AC ?_|refine As ?_|refine And.intro ?_ ?_))
      all_goals exact A3m dV
     ·rw[Ug s2,WU hz];refine yF Tryz.func161 ?_
      repeat'(first|exact Au|refine yC ?_ ?_|refine⟨λh=>?_⟩|refine FA 28 56 Y Y Y dV ?_|fail)
      all_goals try(exfalso;omega)
      all_goals refine Ah Y ?_
      all_goals(repeat'(first|exact A3l _|exact Ay|exact A9|exact trivial|refine AC ?_|refine As ?_|refine And.intro ?_ ?_))
      all_goals exact A3m dV
