/- Contracts of plans: the methods of a planner: offsets, commit, tell. -/
import Derived.Test.YtppffhlbcgpgdaaGreatDoorYOk
set_option linter.all false
set_option maxRecDepth 100000
set_option maxHeartbeats 8000000
namespace Go.Proofs.YtppffhlbcgpgdaaGreatDoor
open Go.Am
attribute [local irreducible] Decidable.decide Tr A6 CG EJ
theorem XQ (i:Image) (r:Req) (n:Int) (hn:n≠0) (fF:F7 i r.lO r.lT true=n):A3z 51 [.ref 1 0] [(1,.cells (Af (Ao i++A7 r)))] (.tuple [.t (.slice .any 48 []),.agg (Af (Bw (BO 0 0))),.t (H3 n)]) [(1,.cells (Af (Ao i++A7 r)))]:=by
 have ch:=FK i r.lO r.lT true;rw[fF]at ch;have cr:=Cn i r;obtain⟨kind,mY,aP,lO,ep,part,grp,off,most,oC,b⟩:=r;simp only at ch cr⊢;generalize Fi i lO ep true=wt at ch;refine yG Tryz.func51 ?_
 repeat'(first|exact Au|refine yC ?_ ?_|refine⟨λh=>?_⟩|refine BA 1 19 ?_|refine BA 4 17 ?_|refine BA 8 17 ?_|refine Ahc [(1,1)] [(1,1)] ?_ (c:=(cr _ Ad))|fail)
 all_goals
  all_goals first
   |(exfalso;omega)
   |(exfalso;simp_all;done)
   |(refine A0 [3] Y Y Y (As ⟨A9,AC ?_,A3l _,trivial⟩)
     exact AA)
   |(refine A0 [3] Y Y Y (As ⟨Ay,AC ?_,A3l _,trivial⟩)
     exact AA)
theorem XR (i:Image) (r:Req) (fF:F7 i r.lO r.lT true=0) (mY:Int) (gY:Fi i r.lO r.lT true=mY) (ht:0<=mY/\mY<3) (hq:0<=r.part/\r.part<3) (ho:(A5 i r.part).fin<r.offset):A3z 51 [.ref 1 0] [(1,.cells (Af (Ao i++A7 r)))] (.tuple [.t (.slice .any 48 []),.agg (Af (Bw (BO 0 0))),.t (H3 130)]) [(1,.cells (Af (Ao i++A7 r)))]:=by
 have ch:=FK i r.lO r.lT true;rw[fF,gY]at ch;have cr:=Cn i r;obtain⟨kind,rtid,aP,lO,ep,part,grp,off,most,oC,b⟩:=r;simp only at ch cr hq ho⊢;rcases AH ht with rfl|rfl|rfl<;>rcases AH hq with rfl|rfl|rfl
 all_goals
  simp only[Aj,A5,Int.reduceEq,Xs,ZF]at ho;refine yG Tryz.func51 ?_
  repeat'(first|exact Au|refine yC ?_ ?_|refine⟨λh=>?_⟩|refine BA 1 19 ?_|refine BA 4 17 ?_|refine BA 8 17 ?_|refine BZ cp ?_|refine BT [(1,1)] [(1,1)] (cr 130 Ae) ?_|fail)
  all_goals first
   |(exfalso;omega)
   |(exfalso;simp_all;done)
   |(refine A0 [3] Y Y Y (As ⟨A9,AC ?_,A3l _,trivial⟩)
     exact AA)
   |(refine A0 [3] Y Y Y (As ⟨Ay,AC ?_,A3l _,trivial⟩)
     exact AA)
theorem XT (i K L:Image) (r:Req) (fF:F7 i r.lO r.lT true=0) (mY:Int) (gY:Fi i r.lO r.lT true=mY) (ht:0<=mY/\mY<3) (hq:0<=r.part/\r.part<3) (ho: ¬(A5 i r.part).fin<r.offset) (cL:G7 (Aj i.m mY)) (lH: ¬((Aj i.m mY).state=3\/(Aj i.m mY).state=4)) (w:List Wr) (cw:A3z 78 [.ref 1 0,.agg (Af (Al (e2 mY (EI r))))] [(1,.cells (Af (Ao i++A7 r)))] (.tuple [.agg (Af (Bx ⟨w,L⟩)),.t .nilIface]) [(1,.cells (Af (Ao K++A7 r)))]):A3z 51 [.ref 1 0] [(1,.cells (Af (Ao i++A7 r)))] (.tuple [.t (.slice .any 48 [Bx ⟨w,L⟩]),.agg (Af (Bw (BO 0 0))),.t .nilIface]) [(1,.cells (Af (Ao K++A7 r)))]:=by
 have ch:=FK i r.lO r.lT true;rw[fF,gY]at ch;have cp:=ND _ cL;rw[A44 lH]at cp;obtain⟨kind,rtid,aP,lO,ep,part,grp,off,most,oC,b⟩:=r;simp only[EI]at ch hq ho cw⊢;rw[Kr]at cw;have cw:=Ga cw;rcases AH ht with rfl|rfl|rfl<;>rcases AH hq with rfl|rfl|rfl
 all_goals
  simp only[Aj,A5,Int.reduceEq,Xs,ZF]at ho cp;refine yG Tryz.func51 ?_
  repeat'(first|exact Au|refine yC ?_ ?_|refine⟨λh=>?_⟩|refine BA 1 19 ?_|refine BA 4 17 ?_|refine D4 8 17 [(17,14)] [0,1,3,7,15,0,32,96,224,480,0,1024,3072,7168,15360,32767,0,131071] ?_|refine BT [(1,1)] [(1,1)] cw ?_|fail)
  all_goals first
   |(exfalso;omega)
   |(exfalso;simp_all;done)
   |(refine A0 [3,7,8] Y Y Y (As ⟨A9,AC ?_,A3l _,trivial⟩)
     exact AA)
   |(refine A0 [3,7,8] Y Y Y (As ⟨Ay,AC ?_,A3l _,trivial⟩)
     exact AA)
theorem XS (i:Image) (r:Req) (fF:F7 i r.lO r.lT true=0) (mY:Int) (gY:Fi i r.lO r.lT true=mY) (ht:0<=mY/\mY<3) (hq:0<=r.part/\r.part<3) (ho: ¬(A5 i r.part).fin<r.offset) (cL:G7 (Aj i.m mY)) (lH: ¬((Aj i.m mY).state=3\/(Aj i.m mY).state=4)) (n:Int) (cw:A3z 78 [.ref 1 0,.agg (Af (Al (e2 mY (EI r))))] [(1,.cells (Af (Ao i++A7 r)))] (.tuple [.agg (Af O6),.t (H3 n)]) [(1,.cells (Af (Ao i++A7 r)))]):A3z 51 [.ref 1 0] [(1,.cells (Af (Ao i++A7 r)))] (.tuple [.t (.slice .any 48 []),.agg (Af (Bw (BO 0 0))),.t (H3 n)]) [(1,.cells (Af (Ao i++A7 r)))]:=by
 have ch:=FK i r.lO r.lT true;rw[fF,gY]at ch;have cp:=ND _ cL;rw[A44 lH]at cp;obtain⟨kind,rtid,aP,lO,ep,part,grp,off,most,oC,b⟩:=r;simp only[EI]at ch hq ho cw⊢;rw[Kr]at cw;have cw:=Ga cw;rcases AH ht with rfl|rfl|rfl<;>rcases AH hq with rfl|rfl|rfl
 all_goals
  simp only[Aj,A5,Int.reduceEq,Xs,ZF]at ho cp;refine yG Tryz.func51 ?_
  repeat'(first|exact Au|refine yC ?_ ?_|refine⟨λh=>?_⟩|refine BA 1 19 ?_|refine BA 4 17 ?_|refine D4 8 17 [(17,14)] [0,1,3,7,15,0,32,96,224,480,0,1024,3072,7168,15360,32767,0,131071] ?_|refine BT [(1,1)] [(1,1)] cw ?_|fail)
  all_goals first
   |(exfalso;omega)
   |(exfalso;simp_all;done)
   |(refine A0 [3,7,8] Y Y Y (As ⟨A9,AC ?_,A3l _,trivial⟩)
     exact AA)
   |(refine A0 [3,7,8] Y Y Y (As ⟨Ay,AC ?_,A3l _,trivial⟩)
     exact AA)
theorem Acc (i:Image) (r:Req) (hq:0<=r.part/\r.part<3) (ho:(A5 i r.part).fin<r.offset):A3z 54 [.ref 1 0] [(1,.cells (Af (Ao i++A7 r)))] (.tuple [.t (.slice .any 48 []),.agg (Af (Bw (BO 0 0))),.t (H3 130)]) [(1,.cells (Af (Ao i++A7 r)))]:=by
 have cr:=Cn i r;obtain⟨kind,mY,aP,lO,ep,part,grp,off,most,oC,b⟩:=r;simp only at cr hq ho⊢;rcases AH hq with rfl|rfl|rfl
 all_goals
  simp only[A5,Int.reduceEq,Xs,ZF]at ho;refine yG Tryz.func54 ?_
  repeat'(first|exact Au|refine yC ?_ ?_|refine⟨λh=>?_⟩|refine BA 1 17 ?_|refine BA 3 17 ?_|refine BT [(1,1)] [(1,1)] (cr 130 Ae) ?_|fail)
  all_goals first
   |(exfalso;omega)
   |(exfalso;simp_all;done)
   |(refine A0 [3] Y Y Y (As ⟨A9,AC ?_,A3l _,trivial⟩)
     exact AA)
   |(refine A0 [3] Y Y Y (As ⟨Ay,AC ?_,A3l _,trivial⟩)
     exact AA)
theorem Ace (i K L:Image) (r:Req) (hq:0<=r.part/\r.part<3) (ho: ¬(A5 i r.part).fin<r.offset) (w:List Wr) (cw:A3z 78 [.ref 1 0,.agg (Af (Al (e5 (EI r))))] [(1,.cells (Af (Ao i++A7 r)))] (.tuple [.agg (Af (Bx ⟨w,L⟩)),.t .nilIface]) [(1,.cells (Af (Ao K++A7 r)))]):A3z 54 [.ref 1 0] [(1,.cells (Af (Ao i++A7 r)))] (.tuple [.t (.slice .any 48 [Bx ⟨w,L⟩]),.agg (Af (Bw (BO 0 0))),.t .nilIface]) [(1,.cells (Af (Ao K++A7 r)))]:=by
 obtain⟨kind,mY,aP,lO,ep,part,grp,off,most,oC,b⟩:=r;simp only[EI]at hq ho cw⊢;rw[LV]at cw;have cw:=Ga cw;rcases AH hq with rfl|rfl|rfl
 all_goals
  simp only[A5,Int.reduceEq,Xs,ZF]at ho;refine yG Tryz.func54 ?_
  repeat'(first|exact Au|refine yC ?_ ?_|refine⟨λh=>?_⟩|refine BA 1 17 ?_|refine D4 3 17 [(17,10)] [0,1,3,7,15,0,32,96,224,480,0,1024,3072,7168,15360,32767,0,131071] ?_|refine BT [(1,1)] [(1,1)] cw ?_|fail)
  all_goals first
   |(exfalso;omega)
   |(exfalso;simp_all;done)
   |(refine A0 [3,5,6] Y Y Y (As ⟨A9,AC ?_,A3l _,trivial⟩)
     exact AA)
   |(refine A0 [3,5,6] Y Y Y (As ⟨Ay,AC ?_,A3l _,trivial⟩)
     exact AA)
theorem Acd (i:Image) (r:Req) (hq:0<=r.part/\r.part<3) (ho: ¬(A5 i r.part).fin<r.offset) (n:Int) (cw:A3z 78 [.ref 1 0,.agg (Af (Al (e5 (EI r))))] [(1,.cells (Af (Ao i++A7 r)))] (.tuple [.agg (Af O6),.t (H3 n)]) [(1,.cells (Af (Ao i++A7 r)))]):A3z 54 [.ref 1 0] [(1,.cells (Af (Ao i++A7 r)))] (.tuple [.t (.slice .any 48 []),.agg (Af (Bw (BO 0 0))),.t (H3 n)]) [(1,.cells (Af (Ao i++A7 r)))]:=by
 obtain⟨kind,mY,aP,lO,ep,part,grp,off,most,oC,b⟩:=r;simp only[EI]at hq ho cw⊢;rw[LV]at cw;have cw:=Ga cw;rcases AH hq with rfl|rfl|rfl
 all_goals
  simp only[A5,Int.reduceEq,Xs,ZF]at ho;refine yG Tryz.func54 ?_
  repeat'(first|exact Au|refine yC ?_ ?_|refine⟨λh=>?_⟩|refine BA 1 17 ?_|refine D4 3 17 [(17,10)] [0,1,3,7,15,0,32,96,224,480,0,1024,3072,7168,15360,32767,0,131071] ?_|refine BT [(1,1)] [(1,1)] cw ?_|fail)
  all_goals first
   |(exfalso;omega)
   |(exfalso;simp_all;done)
   |(refine A0 [3,5,6] Y Y Y (As ⟨A9,AC ?_,A3l _,trivial⟩)
     exact AA)
   |(refine A0 [3,5,6] Y Y Y (As ⟨Ay,AC ?_,A3l _,trivial⟩)
     exact AA)
theorem Ao7 (i:Image) (r:Req) (hg:r.sZ=0\/r.sZ=1) (hq:0<=r.part/\r.part<3):A3z 55 [.ref 1 0] [(1,.cells (Af (Ao i++A7 r)))] (.tuple [.t (.slice .any 48 []),.agg (Af (Bw (T1 (As3 i.m r.sZ r.part)))),.t .nilIface]) [(1,.cells (Af (Ao i++A7 r)))]:=by
 obtain⟨kind,mY,aP,lO,ep,part,grp,off,most,oC,b⟩:=r;simp only at hg hq⊢;rcases hg with rfl|rfl<;>rcases AH hq with rfl|rfl|rfl
 all_goals
  refine yG Tryz.func55 ?_
  repeat'(first|exact Au|refine yC ?_ ?_|refine⟨λh=>?_⟩|refine D4 1 20 [(20,6)] [0,0,2,6,14,30,0,64,192,448,960,1,2049,6145,14337,30783,65535,131071,262143,0,1048575,2097151] ?_|fail)
  all_goals first
   |(exfalso;omega)
   |(exfalso;simp_all;done)
   |(refine A0 [3] Y Y Y (As ⟨A9,AC ?_,A3l _,trivial⟩)
     exact AA)
   |(refine A0 [3] Y Y Y (As ⟨Ay,AC ?_,A3l _,trivial⟩)
     exact AA)
