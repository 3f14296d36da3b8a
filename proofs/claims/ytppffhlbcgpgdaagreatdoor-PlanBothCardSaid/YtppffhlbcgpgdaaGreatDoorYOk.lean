/- Contracts of plans: a planner's methods, each from what it calls. -/
import Derived.Test.YtppffhlbcgpgdaaGreatDoorYKC
import Derived.Test.YtppffhlbcgpgdaaGreatDoorYOj
import Derived.Test.YtppffhlbcgpgdaaGreatDoorYK17
set_option linter.all false
set_option maxRecDepth 100000
set_option maxHeartbeats 8000000
namespace Go.Proofs.YtppffhlbcgpgdaaGreatDoor
open Go.Am
attribute [local irreducible] Decidable.decide Tr A6 CG EJ
def T1 (n:Int):Reply:={BO 0 0 with offset:=n}
def EI (r:Req):Pend:=⟨r.sZ,r.part,r.offset⟩
theorem Ab6 (i K L:Image) (r:Req) (w:List Wr) (cw:A3z 78 [.ref 1 0,.agg (Af (Al e0))] [(1,.cells (Af (Ao i++A7 r)))] (.tuple [.agg (Af (Bx ⟨w,L⟩)),.t .nilIface]) [(1,.cells (Af (Ao K++A7 r)))]):A3z 48 [.ref 1 0] [(1,.cells (Af (Ao i++A7 r)))] (.tuple [.t (.slice .any 48 [Bx ⟨w,L⟩]),.agg (Af (Bw {BO 0 0 with lO:=L.m.vP})),.t .nilIface]) [(1,.cells (Af (Ao K++A7 r)))]:=by
 obtain⟨kind,mY,aP,lO,ep,part,grp,off,most,oC,b⟩:=r;try simp only at cw⊢
 rw[Ks]at cw;have cw:=Ga cw
 all_goals
  refine yG Tryz.func48 ?_
  repeat'(first|exact Au|refine yC ?_ ?_|refine⟨λh=>?_⟩|refine D4 4 8 [(8,6)] [0,1,0,4,12,28,60,3,255,511] ?_|refine BT [(1,1)] [(1,1)] cw ?_|fail)
  all_goals first
   |(exfalso;omega)
   |(exfalso;simp_all;done)
   |(refine A0 [3,5] Y Y Y (As ⟨A9,AC ?_,A3l _,trivial⟩)
     exact AA)
   |(refine A0 [3,5] Y Y Y (As ⟨Ay,AC ?_,A3l _,trivial⟩)
     exact AA)
theorem Ab5 (i:Image) (r:Req) (n:Int) (cw:A3z 78 [.ref 1 0,.agg (Af (Al e0))] [(1,.cells (Af (Ao i++A7 r)))] (.tuple [.agg (Af O6),.t (H3 n)]) [(1,.cells (Af (Ao i++A7 r)))]):A3z 48 [.ref 1 0] [(1,.cells (Af (Ao i++A7 r)))] (.tuple [.t (.slice .any 48 []),.agg (Af (Bw (BO 0 0))),.t (H3 n)]) [(1,.cells (Af (Ao i++A7 r)))]:=by
 obtain⟨kind,mY,aP,lO,ep,part,grp,off,most,oC,b⟩:=r;try simp only at cw⊢
 rw[Ks]at cw;have cw:=Ga cw
 all_goals
  refine yG Tryz.func48 ?_
  repeat'(first|exact Au|refine yC ?_ ?_|refine⟨λh=>?_⟩|refine BT [(1,1)] [(1,1)] cw ?_|fail)
  all_goals first
   |(exfalso;omega)
   |(exfalso;simp_all;done)
   |(refine A0 [3,5] Y Y Y (As ⟨A9,AC ?_,A3l _,trivial⟩)
     exact AA)
   |(refine A0 [3,5] Y Y Y (As ⟨Ay,AC ?_,A3l _,trivial⟩)
     exact AA)
theorem Ahu (i:Image) (r:Req) (ht:0<=r.mY/\r.mY<3) (hk:(Aj i.m r.mY).state≠2) (n:Int) (cw:A3z 78 [.ref 1 0,.agg (Af (Al (e1 r.mY r.mZ)))] [(1,.cells (Af (Ao i++A7 r)))] (.tuple [.agg (Af O6),.t (H3 n)]) [(1,.cells (Af (Ao i++A7 r)))]):A3z 49 [.ref 1 0] [(1,.cells (Af (Ao i++A7 r)))] (.tuple [.t (.slice .any 48 []),.agg (Af (Bw (BO 0 0))),.t (H3 n)]) [(1,.cells (Af (Ao i++A7 r)))]:=by
 obtain⟨kind,mY,aP,lO,ep,part,grp,off,most,oC,b⟩:=r;simp only at ht hk cw⊢;rw[HU]at cw;have cw:=Ga cw;rcases AH ht with rfl|rfl|rfl
 all_goals
  simp only[Aj,Int.reduceEq,Xs,ZF]at hk;refine yG Tryz.func49 ?_
  repeat'(first|exact Au|refine yC ?_ ?_|refine⟨λh=>?_⟩|refine BA 3 10 ?_|refine Mz (id:=6) (m:=17) (ms:=[0,0,2,6,14,30,0,64,192,448,960,2046,4095,8191,16383,16383,32767,131071]) Ai [(16,10)] 12 Ab Y Y Y Y Ab Ab Ab Y Y Y Y ?_|refine BT [(1,1)] [(1,1)] cw ?_|fail)
  all_goals first
   |(exfalso;omega)
   |(exfalso;simp_all;done)
   |(refine A0 [3,5] Y Y Y (As ⟨A9,AC ?_,A3l _,trivial⟩)
     exact AA)
   |(refine A0 [3,5] Y Y Y (As ⟨Ay,AC ?_,A3l _,trivial⟩)
     exact AA)
theorem Ach (i:Image) (r:Req) (ht:0<=r.mY/\r.mY<3) (hk:(Aj i.m r.mY).state=2) (w:List Wr) (L:Image) (cf:A3z 20 [.agg (Af (Ao i)),.t (.int .i64 r.mY),.t (.bool false),.t (.int .i64 r.mZ)] [] (.tuple [.agg (Af (Bx ⟨w,L⟩)),.t (.int .i64 0)]) []):A3z 49 [.ref 1 0] [(1,.cells (Af (Ao i++A7 r)))] (.tuple [.t (.slice .any 48 [Bx ⟨w,L⟩]),.agg (Af (Bw (W5 L r.mY))),.t .nilIface]) [(1,.cells (Af (Ao i++A7 r)))]:=by
 have cr:=Kb;have c0:=PJ;obtain⟨kind,mY,aP,lO,ep,part,grp,off,most,oC,b⟩:=r;simp only at ht hk cf⊢;rcases AH ht with rfl|rfl|rfl
 all_goals
  simp only[Aj,Int.reduceEq,Xs,ZF]at hk;refine yG Tryz.func49 ?_
  repeat'(first|exact Au|refine yC ?_ ?_|refine⟨λh=>?_⟩|refine BA 3 10 ?_|refine D4 4 20 [(19,14)] [0,1,3,7,0,16,48,112,240,0,512,1536,3584,7680,16383,32767,65535,65535,0,393215,1048575] ?_|refine D4 5 3 [(3,10)] [0,0,2,7,15] ?_|refine D4 10 8 [(8,6)] [0,1,0,4,0,16,60,3,255,511] ?_|refine Anx ?_ (c:=cr _ Ad)|refine Ab0 ?_ (c:=cr _ Ad)|fail)
  all_goals first
   |(exfalso;omega)
   |(exfalso;simp_all;done)
   |(refine A0 [3,5,7,9] Y Y Y (As ⟨A9,AC ?_,A3l _,trivial⟩)
     exact AA)
   |(refine A0 [3,5,7,9] Y Y Y (As ⟨Ay,AC ?_,A3l _,trivial⟩)
     exact AA)
theorem Acg (i:Image) (r:Req) (ht:0<=r.mY/\r.mY<3) (hk:(Aj i.m r.mY).state=2) (n:Int) (hn:n≠0) (cf:A3z 20 [.agg (Af (Ao i)),.t (.int .i64 r.mY),.t (.bool false),.t (.int .i64 r.mZ)] [] (.tuple [.agg (Af (Bx P9)),.t (.int .i64 n)]) []):A3z 49 [.ref 1 0] [(1,.cells (Af (Ao i++A7 r)))] (.tuple [.t (.slice .any 48 []),.agg (Af (Bw (BO 0 0))),.t (H3 n)]) [(1,.cells (Af (Ao i++A7 r)))]:=by
 have cr:=Kb;have c0:=PJ;obtain⟨kind,mY,aP,lO,ep,part,grp,off,most,oC,b⟩:=r;simp only at ht hk cf⊢;rcases AH ht with rfl|rfl|rfl
 all_goals
  simp only[Aj,Int.reduceEq,Xs,ZF]at hk;refine yG Tryz.func49 ?_
  repeat'(first|exact Au|refine yC ?_ ?_|refine⟨λh=>?_⟩|refine BA 3 10 ?_|refine D4 4 20 [(19,14)] [0,1,3,7,0,16,48,112,240,0,512,1536,3584,7680,16383,32767,65535,65535,0,393215,1048575] ?_|refine D4 5 3 [(3,10)] [0,0,2,7,15] ?_|refine D4 10 8 [(8,6)] [0,1,0,4,0,16,60,3,255,511] ?_|refine Anx ?_ (c:=cr _ Ad)|refine Ab0 ?_ (c:=cr _ Ad)|fail)
  all_goals first
   |(exfalso;omega)
   |(exfalso;simp_all;done)
   |(refine A0 [3,5,7] Y Y Y (As ⟨A9,AC ?_,A3l _,trivial⟩)
     exact AA)
   |(refine A0 [3,5,7] Y Y Y (As ⟨Ay,AC ?_,A3l _,trivial⟩)
     exact AA)
