/- Contracts of transactional ids: a group's offset that is kept. -/
import Derived.Test.YtppffhlbcgpgdaaGreatDoorYK10
set_option linter.all false
set_option maxRecDepth 100000
set_option maxHeartbeats 8000000
namespace Go.Proofs.YtppffhlbcgpgdaaGreatDoor
open Go.Am
attribute [local irreducible] Decidable.decide Tr A6 CG EJ
theorem Abk (es:List (List T)) (x:List T) (bW:es.length<=1000000):A3z 285 [.row 1 3 0 es.length,.t (.int .i64 (es.length:Int)),.t (.slice .full 3 [x])] [(1,.grow 3 es)] (.row 1 3 0 (es++[x]).length) [(1,.grow 3 (es++[x]))]:=by
 refine yG Tryz.func285 ?_
 repeat'(first|exact Au|refine yB ?_ ?_|refine⟨λh=>?_⟩|refine BA 11 8 ?_|refine BA 15 8 ?_|refine WE Ai (l:=es.length) (h:=es.length) Y Y Y Y Y Y Jg (Di Y Y) (WW _) (WW _) Y ?_|fail)
 ·simp at h
 ·refine B3 ?_;exact A0 [] Y Y Y (A3l _)
theorem Ae9 (p q:Pend):A3z 252 (.agg (Af (A3 q))::Af [.ptr (A3 p)]) [] (.t (.int .i64 (GU q p))) []:=by
 have c:=MY q p;refine yF Tryz.func252 ?_
 repeat'(first|exact Au|refine yC ?_ ?_|refine⟨λh=>?_⟩|fail)
 all_goals exact Ah Y (A3m Y)
theorem LX {p:Pend}: ∀{l:List Pend} {i:Nat},(∀x∈l.take i,Nj x p=true)->G1 p l=l.take i++G1 p (l.drop i)
 |l,0,_=>Ac
 |[],i+1,_=>Ac
 |a::r,i+1,h=>by
  have ha:Nj a p=true:=h a Ac;have hr:=LX (p:=p) (l:=r) (i:=i) (λx hx=>h x (by simp[hx]));simp only[G1,ha,Xs,List.take_succ_cons,A8p,A5n];rw[hr]
theorem Aq2 {p r:Pend} {l:List Pend} {i:Nat} (h: ∀x∈l.take i,Nj x p=true) (hr:l[i]?=some r) (h1:Nj r p=false) (h2:r.sZ=p.sZ/\r.part=p.part):G1 p l=l.set i p:=by
 have aC:=(ZH.1 hr).1;rw[LX h,CL hr];simp only[G1,h1,A0s,ZF,WU h2];rw[A76,WU aC]
theorem Alv {p r:Pend} {l:List Pend} {i:Nat} (h: ∀x∈l.take i,Nj x p=true) (hr:l[i]?=some r) (h1:Nj r p=false) (h2: ¬(r.sZ=p.sZ/\r.part=p.part)):(G1 p l).map A3=I7 (l.map A3) i (A3 p):=by
 rw[LX h,CL hr];simp only[G1,h1,A0s,ZF,Ug h2];simp only[I7,A38,A5h,A8v,A7r];rw[CL (l:=l.map A3) (C8 hr)]
theorem Alw {p:Pend} {l:List Pend} (h: ∀x∈l,Nj x p=true):(G1 p l).map A3=l.map A3++[A3 p]:=by
 have:=LX (p:=p) (l:=l) (i:=l.length) (by rw[A5o];exact h);rw[A5o,List.drop_length]at this;rw[this];simp[G1]
def Tb (p:Pend):AV:=.t (.func (.func 252) [] [.ptr (A3 p)])
theorem Alh (l:List Pend) (p:Pend) (hl:l.length<=1000):A3z 251 [.row 1 3 0 (l.map A3).length,.agg (Af (A3 p)),Tb p] [(1,.grow 3 (l.map A3))] (.row 1 3 0 ((G1 p l).map A3).length) [(1,.grow 3 ((G1 p l).map A3))]:=by
 have aQ:(l.map A3).length=l.length:=Ts ..;unfold Tb;refine yG Tryz.func251 ?_
 repeat'(first|exact Au|refine yB ?_ ?_|refine⟨λh=>?_⟩|fail)
 refine AW (ι:=Nat) (λi=>i<=l.length/\ ∀x∈l.take i,Nj x p=true) (λi=>[(0,.row 1 3 0 (l.map A3).length),(2,.t (.func (.func 252) [] [.ptr (A3 p)])),(4,.ref 8 0),(7,.t (.int .i64 i))]) (λ_=>[(8,.cells (Af (A3 p))),(1,.grow 3 (l.map A3))]) (λi=>l.length-i) 0 Ac ?_ ?_
 ·exact Bb [] Aa6 Y
 rintro i ⟨hi,aI⟩;by_cases aC:i<l.length
 ·have hr:l[i]?=some l[i]:=Kv aC;generalize l[i]=r at hr;have dN:(l.map A3)[0+i]?=some (A3 r):=by rw[Atj];exact C8 hr
  have cc:=Ae9 p r;have fM:=OG r p;have kW:=Af0 r p;generalize GU r p=z at cc fM kW;have hw:IntKind.i64.wrap ((i:Int)+1)=((i+1:Nat):Int):=by rw[A1 Aa Aa];rfl
  by_cases hz:z<0
  ·repeat'(first|exact Au|rw[hw]|refine yB ?_ ?_|refine⟨λh=>?_⟩|refine Cb Ai (kc:=i) Y Y Y Y Y Y Y Y (by rw[aQ];exact aC) Y ?_|refine F8 Ai Y Y Y Y Y dN Y Y Y ?_|fail)
   all_goals try(exfalso;omega)
   refine AM (i+1) ⟨aC,λx hx=>?_⟩ Aa [] (Ag Y Y (Ag Y Y (Ag Y Y (Ag Y ?_ A8)))) Y
   ·rw[AB hr]at hx;rcases A25.1 hx with hx|hx
    ·exact aI x hx
    ·simp at hx;subst hx;exact fM.1 hz
   ·rfl
  ·have hf:Nj r p=false:=by
    cases h:Nj r p with
    |false=>rfl
    |true=>exact absurd (fM.2 h) hz
   by_cases h0:z=0
   ·have fK:=Aq2 aI hr hf (kW.1 h0)
    repeat'(first|exact Au|refine yB ?_ ?_|refine⟨λh=>?_⟩|refine Cb Ai (kc:=i) Y Y Y Y Y Y Y Y (by rw[aQ];exact aC) Y ?_|refine F8 Ai Y Y Y Y Y dN Y Y Y ?_|refine E9 Ai (ts:=A3 p) Y Y Y Y Y Y Y Y Y Y dN Y Y ?_|fail)
    all_goals try(exfalso;omega)
    all_goals refine B3 ?_
    refine A0 [4] Y Y ?_ (A3m (by rw[fK];simp;rfl));show[(1,Blk.grow 3 ((l.map A3).set (0+i) (A3 p)))]=_;rw[fK,Atj,List.map_set]
   ·have fK:=Alv aI hr hf (λe=>h0 (kW.2 e))
    repeat'(first|exact Au|refine QC Ai Y Y Y Y Y Y Y Y ?_|refine yB ?_ ?_|refine⟨λh=>?_⟩|refine Cb Ai (kc:=i) Y Y Y Y Y Y Y Y (by rw[aQ];exact aC) Y ?_|refine F8 Ai Y Y Y Y Y dN Y Y Y ?_|refine Ahc [(1,1),(88,3)] [(1,1),(3,88)] ?_ (c:=(Abj (l.map A3) i _ (by rw[aQ];exact aC) (by rw[aQ];omega)))|fail)
    all_goals try(exfalso;omega)
    all_goals refine B3 ?_
    refine A0 [4,44] Y Y ?_ (A3m ?_)
    ·rw[fK];rfl
    ·rw[fK];first|rfl|(refine A8d (b:=AV.row 1 3 0 ((l.map A3).length+1)) Y ?_;simp[I7];omega)|trace_state
 ·have hH:i=l.length:=Aa;subst hH;rw[A5o]at aI;have fK:=Alw aI;have ci:=Abk (l.map A3) (A3 p) (by rw[aQ];omega);rw[show(((l.map A3).length:Nat):Int)=(l.length:Int)by rw[aQ]]at ci
  repeat'(first|exact Au|refine yB ?_ ?_|refine⟨λh=>?_⟩|refine BT [(1,1)] [(1,1)] ci ?_|fail)
  all_goals try(exfalso;omega)
  all_goals refine B3 ?_
  refine A0 [4] Y Y ?_ (A3m ?_)
  ·rw[fK];rfl
  ·rw[fK];rfl
theorem TB (l:List Pend) (hl:l.length<=1000000):A3z 99 [.t (.slice .any 3 (l.map A3))] [] (.row 14 3 0 (l.map A3).length) [(14,.grow 3 (l.map A3))]:=by
 refine yG Tryz.func99 ?_;have aQ:(l.map A3).length=l.length:=Ts ..
 repeat'(first|exact Au|refine PA (λb hb=>?_)|refine yB ?_ ?_|refine⟨λh=>?_⟩|refine KO Ai Y Y Y Y Y Y Y Y Y Y Y Y Y (by simp;omega) ?_|fail)
 ·have h0:=hb h;rw[h0];refine A3n 2 7 3 Y Y ?_;refine B3 ?_;exact A0 [] Y Y Y (A3l _)
 ·refine B3 ?_;exact A0 [] Y Y Y (A3l _)
def Azv (c:Coord) (b n:Nat):List AV:=[.t (.int .i8 c.state),.t (.int .i64 c.lO),.t (.int .i64 c.lT),.t (.int .i64 c.mZ),.t (.int .i64 c.sA),.t (.slice .any 1 (c.parts.map Cy)),.row b 3 0 n,.t (.int .i64 c.vZ)]
theorem Ae4 (c:Coord) (hc:SmallC c):A3z 67 [.agg (Af (AN c))] [] (.agg (Azv c 18 (c.rH.map A3).length)) [(18,.grow 3 (c.rH.map A3))]:=by
 have c1:=GI c.parts hc.parts;have c2:=TB c.rH hc.rH;refine yG Tryz.func67 ?_
 repeat'(first|refine BT [] [(14,18)] c2 ?_|exact Au|refine yB ?_ ?_|refine⟨λh=>?_⟩|fail)
 refine B3 ?_;exact A0 [1,2] Y Y Y (A3l _)
theorem Ajk (c:Coord) (hc:SmallC c):A3z 250 [.agg (Af (AN c))] [] (.agg (Azv {c with state:=2} 8 (c.rH.map A3).length)) [(8,.grow 3 (c.rH.map A3))]:=by
 have c1:=Ae4 c hc;refine yG Tryz.func250 ?_
 repeat'(first|refine BT [] [(18,8)] c1 ?_|exact Au|refine yB ?_ ?_|refine⟨λh=>?_⟩|fail)
 refine B3 ?_;exact A0 [1,2] Y Y Y (A3l _)
theorem WS (c:Coord) (hc:SmallC c) (hl:c.rH.length<=900) (p:Pend):A3z 212 [.agg (Af (AN c)),.agg (Af (A3 p))] [] (.tuple [.agg (Af (AN (R6 c p))),.t (.int .i64 (IW c p))]) []:=by
 have ck:=G6 c hc 1 (AZ p);have cp:=UN p;unfold R6;by_cases ha:AZ p=false\/BD c=false
 ·have e:IW c p=2:=WU ha;simp only[FG,WU ha]at ck;rw[e,WU Ae];have cd:=Dj (.str [97,110,32,97,114,103,117,109,101,110,116]) 2;refine yF Tryz.func212 ?_
  repeat'(first|exact Au|refine yC ?_ ?_|refine⟨λh=>?_⟩|refine BA 1 3 ?_|fail)
  all_goals(refine Ah Y ?_;first|exact A3l _|exact As ⟨C2,A3l _,trivial⟩)
 ·cases hb:Ci c.state 1 with
  |false=>
   have e:IW c p=180:=(Ug ha).trans (WU hb);simp only[FG,Ug ha,hb,Xs]at ck;rw[e,WU Ae];have cd:=Dj (.str [97,32,115,116,97,116,101]) 180;refine yF Tryz.func212 ?_
   repeat'(first|exact Au|refine yC ?_ ?_|refine⟨λh=>?_⟩|refine BA 1 3 ?_|fail)
   all_goals(refine Ah Y ?_;first|exact A3l _|exact As ⟨C2,A3l _,trivial⟩)
  |true=>
   have e:IW c p=0:=(Ug ha).trans (Ug (by rw[hb];decide));simp only[FG,Ug ha,hb,A50,ZF]at ck;rw[e,Ug Ae];have co:=Ajk c hc;have ke:=Alh c.rH p Aa;unfold Tb at ke;refine yF Tryz.func212 ?_
   repeat'(first|refine BT [] [(8,36)] co ?_|exact Au|refine Cr 3 6 Y Y Y Y Y ?_|refine yC ?_ ?_|refine⟨λh=>?_⟩|refine BA 1 3 ?_|refine BT [(36,1)] [(1,36)] ke ?_|fail)
   all_goals refine Ah Y (A3m ?_)
   refine A8d (b:=.tuple [.agg [.t (.int .i8 2),.t (.int .i64 c.lO),.t (.int .i64 c.lT),.t (.int .i64 c.mZ),.t (.int .i64 c.sA),.t (.slice .any 1 (c.parts.map Cy)),BG 36 3 ((G1 p c.rH).map A3) (.row 36 3 0 ((G1 p c.rH).map A3).length),.t (.int .i64 c.vZ)],.t (.int .i64 0)]) Y ?_;rw[QT _ _ _ _ Y];rfl
