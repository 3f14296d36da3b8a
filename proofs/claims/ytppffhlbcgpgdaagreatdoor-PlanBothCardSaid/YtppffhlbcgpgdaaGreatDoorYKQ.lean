/- Contracts of plans: a planner that produces. -/
import Derived.Test.YtppffhlbcgpgdaaGreatDoorYOkb
import Derived.Test.YtppffhlbcgpgdaaGreatDoorYKL
set_option linter.all false
set_option maxRecDepth 100000
set_option maxHeartbeats 8000000
namespace Go.Proofs.YtppffhlbcgpgdaaGreatDoor
open Go.Am
attribute [local irreducible] Decidable.decide Tr A6 CG EJ
structure Hold (q:Prop):Prop where
 h:q
theorem hold (id:Nat) {P:Program} {n:Nat} {ops:Array Oper} {d:Bool} {env:A2} {σ:St} {K:Exit->A2->St->Prop} (h:Hold (Tr P n (.region id ops d) env σ K)):Tr P n (.region id ops d) env σ K:=h.h
theorem A6q (t:Nat) {P:Program} {n:Nat} {a b:Code} {env:A2} {σ:St} {K:Exit->A2->St->Prop} (h:Hold (Tr P n (.cond (.tmp t) a b) env σ K)):Tr P n (.cond (.tmp t) a b) env σ K:=h.h
theorem A87 (id:Nat) {P:Program} {n:Nat} {b:Code} {env:A2} {σ:St} {K:Exit->A2->St->Prop} (h:Hold (Tr P n (.block id b) env σ K)):Tr P n (.block id b) env σ K:=h.h
set_option maxHeartbeats 16000000 in
theorem A86 (i:Image) (r:Req) (fF:F7 i r.b.lO r.b.lT r.b.vV=0) (uR:r.b.vV=true->(0<=Fi i r.b.lO r.b.lT r.b.vV/\Fi i r.b.lO r.b.lT r.b.vV<3)/\G7 (Aj i.m (Fi i r.b.lO r.b.lT r.b.vV))/\ ¬((Aj i.m (Fi i r.b.lO r.b.lT r.b.vV)).state=3\/(Aj i.m (Fi i r.b.lO r.b.lT r.b.vV)).state=4)) (hq:0<=r.part/\r.part<3) (P:Part) (s6:Int) (w:List Wr) (n:Int) (cP:A3z 81 [.t (.int .i8 i.vQ),.t (.int .i64 r.part),.agg (Af (Ax (A5 i r.part))),.agg (Af (Ak r.b))] [] (.tuple [.agg (Af (Ax P)),.t (.int .i64 s6),.t (.slice .any 4 (w.map BE)),.t (.int .i64 n)]) []) (ss:List (List T)) (y:Reply) (x:T) (K:Image) (H:(n≠0/\ss=[]/\y=BO 0 0/\x=H3 n/\K=i)\/(n=0/\w=[]/\ss=[]/\y=T1 s6/\x=.nilIface/\K=i)\/(n=0/\w≠[]/\ ∃L,ss=[Bx ⟨w,L⟩]/\y=T1 s6/\x=.nilIface/\K=CP i r.part P/\A3z 72 [.agg (Af (Ao (CP i r.part P))),.t (.slice .any 4 (w.map BE))] [] (.tuple [.agg (Af (Bx ⟨w,L⟩)),.t .nilIface]) [])):A3z 50 [.ref 1 0] [(1,.cells (Af (Ao i++A7 r)))] (.tuple [.t (.slice .any 48 ss),.agg (Af (Bw y)),.t x]) [(1,.cells (Af (Ao K++A7 r)))]:=by
 have ch:=FK i r.b.lO r.b.lT r.b.vV;rw[fF]at ch;have cr:=Cn i r;obtain⟨kind,rtid,aP,lO,ep,part,grp,off,most,oC,⟨bp,be,bs,bt,brs⟩⟩:=r;simp only at ch cr hq cP uR H⊢;generalize Fi i bp be bt=wt at ch uR;refine yG Tryz.func50 ?_
 repeat'(first|exact Au|refine A87 0 ?_|refine yC ?_ ?_|refine⟨λh=>?_⟩|refine BA 2 15 ?_|refine BA 7 24 ?_|refine BA 12 2 ?_|refine BA 13 6 ?_|refine BA 17 4 ?_|refine D4 1 12 [(11,10)] [0,1,3,7,15,0,32,96,224,480,0,1055,4095] ?_|fail)
 refine Hold.mk ?_;refine Ai2 (ι:=Unit) (λ_=>True) (λ_=>[(0,.ref 1 0),(3,.ref 6 0),(5,.ref 10 0),(6,.t (.int .i64 part))]) (λ_=>[(10,.cells (Af (Ak ⟨bp,be,bs,bt,brs⟩))),(6,.cells (Af Ao5.zero)),(1,.cells (Af (Ao i++A7 ⟨kind,rtid,aP,lO,ep,part,grp,off,most,oC,⟨bp,be,bs,bt,brs⟩⟩)))]) (λ_ _ h=>h) ?_ ?_
 ·clear cP H cr
  cases bt with
  |false=>
   repeat'(first|exact Au|refine yC ?_ ?_|refine⟨λh=>?_⟩|refine BA 1 12 ?_|refine BA 2 15 ?_|refine BA 7 24 ?_|refine BA 12 2 ?_|refine BA 13 6 ?_|refine BA 17 4 ?_|fail)
   exact Aaw () trivial [] Aa6 Y
  |true=>
   obtain⟨ht,cL,lH⟩:=uR Y;have cp:=ND _ cL;rw[A44 lH]at cp;rcases AH ht with rfl|rfl|rfl
   all_goals
    simp only[Aj,Int.reduceEq,Xs,ZF]at cp
    repeat'(first|exact Au|refine yC ?_ ?_|refine⟨λh=>?_⟩|refine BA 1 12 ?_|refine BA 2 15 ?_|refine BA 7 24 ?_|refine BA 12 2 ?_|refine BA 13 6 ?_|refine BA 17 4 ?_|fail)
    all_goals first
     |exact Aaw () trivial [] Aa6 Y
     |(exfalso;simp_all;done)
 rintro _ _;clear ch uR;rcases H with⟨hn,rfl,rfl,rfl,rfl⟩|⟨rfl,rfl,rfl,rfl,rfl,rfl⟩|⟨rfl,hw,L,rfl,rfl,rfl,rfl,cs⟩
 ·rcases AH hq with rfl|rfl|rfl
  all_goals
   repeat'(first|exact Au|refine yC ?_ ?_|refine⟨λh=>?_⟩|refine BA 1 12 ?_|refine BA 2 15 ?_|refine BA 12 2 ?_|refine BA 13 6 ?_|refine BA 17 4 ?_|refine D4 7 24 [(21,18)] [0,1,3,7,15,0,0,0,64,320,832,1984,4032,0,16383,32767,65535,65535,65535,65535,0,1179647,3407871,7864319,16777215] ?_|refine Ahc [(1,1)] [(1,1)] ?_ (c:=(cr _ Ad))|fail)
   all_goals first
    |(refine A0 [3,5,9] Y Y Y (As ⟨A9,AC ?_,A3l _,trivial⟩)
      exact AA)
    |(refine A0 [3,5,9] Y Y Y (As ⟨Ay,AC ?_,A3l _,trivial⟩)
      exact AA)
    |(exfalso;omega)
    |(exfalso;simp_all;done)
 ·rcases AH hq with rfl|rfl|rfl
  all_goals
   repeat'(first|exact Au|refine yC ?_ ?_|refine⟨λh=>?_⟩|refine BA 1 12 ?_|refine BA 2 15 ?_|refine BA 13 6 ?_|refine BA 17 4 ?_|refine D4 7 24 [(21,18)] [0,1,3,7,15,0,0,0,64,320,832,1984,4032,0,16383,32767,65535,65535,65535,65535,0,1179647,3407871,7864319,16777215] ?_|refine D4 12 2 [(2,6)] [0,0,3,7] ?_|fail)
   all_goals first
    |(refine A0 [3,5,9,12] Y Y Y (As ⟨A9,AC ?_,A3l _,trivial⟩)
      exact AA)
    |(refine A0 [3,5,9,12] Y Y Y (As ⟨Ay,AC ?_,A3l _,trivial⟩)
      exact AA)
    |(exfalso;omega)
    |(exfalso;simp_all;done)
 ·have dZ:w.length≠0:=λe=>hw (List.length_eq_zero_iff.1 e);have hw3:(w.map BE).length=w.length:=Ts ..;rcases AH hq with rfl|rfl|rfl
  all_goals
   repeat'(first|exact Au|refine yC ?_ ?_|refine⟨λh=>?_⟩|refine BA 1 12 ?_|refine BA 2 15 ?_|refine D4 7 24 [(21,18)] [0,1,3,7,15,0,0,0,64,320,832,1984,4032,0,16383,32767,65535,65535,65535,65535,0,1179647,3407871,7864319,16777215] ?_|refine D4 12 2 [(2,6)] [0,0,3,7] ?_|refine D4 13 6 [(7,1)] [0,0,0,1,9,25,63,127] ?_|refine D4 17 4 [(4,6)] [0,1,0,3,15,31] ?_|refine BZ cs ?_|fail)
   all_goals first
    |(refine A0 [3,5,9,12,13] Y Y Y (As ⟨A9,AC ?_,A3l _,trivial⟩)
      exact AA)
    |(refine A0 [3,5,9,12,13] Y Y Y (As ⟨Ay,AC ?_,A3l _,trivial⟩)
      exact AA)
    |(exfalso;omega)
    |(exfalso;simp_all;done)
