/- Contracts of plans: a planner that produces, reads, cuts, ends. -/
import Derived.Test.YtppffhlbcgpgdaaGreatDoorYOkb
import Derived.Test.YtppffhlbcgpgdaaGreatDoorYKL
set_option linter.all false
set_option maxRecDepth 100000
set_option maxHeartbeats 8000000
namespace Go.Proofs.YtppffhlbcgpgdaaGreatDoor
open Go.Am
attribute [local irreducible] Decidable.decide Tr A6 CG EJ
theorem Abs (i:Image) (r:Req) (n:Int) (hn:n≠0) (fF:F7 i r.lO r.lT true=n):A3z 52 [.ref 1 0] [(1,.cells (Af (Ao i++A7 r)))] (.tuple [.t (.slice .any 48 []),.agg (Af (Bw (BO 0 0))),.t (H3 n)]) [(1,.cells (Af (Ao i++A7 r)))]:=by
 have ch:=FK i r.lO r.lT true;rw[fF]at ch;have cr:=Cn i r;obtain⟨kind,rtid,aP,lO,ep,part,grp,off,most,oC,b⟩:=r;simp only at ch cr⊢;generalize Fi i lO ep true=wt at ch;refine yG Tryz.func52 ?_
 repeat'(first|exact Au|refine yC ?_ ?_|refine⟨λh=>?_⟩|refine BA 1 19 ?_|refine BA 4 13 ?_|refine Ahc [(1,1)] [(1,1)] ?_ (c:=(cr _ Ad))|fail)
 all_goals
  all_goals first
   |(refine A0 [3] Y Y Y (As ⟨A9,AC ?_,A3l _,trivial⟩)
     exact AA)
   |(refine A0 [3] Y Y Y (As ⟨Ay,AC ?_,A3l _,trivial⟩)
     exact AA)
   |(exfalso;omega)
   |(exfalso;simp_all;done)
theorem Abt (i:Image) (r:Req) (fF:F7 i r.lO r.lT true=0) (mY:Int) (gY:Fi i r.lO r.lT true=mY) (ht:0<=mY/\mY<3) (he:MU (Aj i.m mY) r.oC=true):A3z 52 [.ref 1 0] [(1,.cells (Af (Ao i++A7 r)))] (.tuple [.t (.slice .any 48 []),.agg (Af (Bw (BO 0 0))),.t .nilIface]) [(1,.cells (Af (Ao i++A7 r)))]:=by
 have ch:=FK i r.lO r.lT true;rw[fF,gY]at ch;have cr:=Cn i r;have cd:=MA (Aj i.m mY) r.oC;rw[he]at cd;obtain⟨kind,rtid,aP,lO,ep,part,grp,off,most,oC,b⟩:=r;simp only at ch cr cd⊢;rcases AH ht with rfl|rfl|rfl
 all_goals
  refine yG Tryz.func52 ?_
  repeat'(first|exact Au|refine yC ?_ ?_|refine⟨λh=>?_⟩|refine BA 1 19 ?_|refine BA 4 13 ?_|refine Ahc [(1,1)] [(1,1)] ?_ (c:=(cr _ Ad))|refine D4 6 16 [(15,14)] [0,1,3,7,0,0,32,96,224,480,1023,2047,4095,4095,0,24575,65535] ?_|fail)
  all_goals first
   |(refine A0 [3] Y Y Y (As ⟨A9,AC ?_,A3l _,trivial⟩)
     exact AA)
   |(refine A0 [3] Y Y Y (As ⟨Ay,AC ?_,A3l _,trivial⟩)
     exact AA)
   |(exfalso;omega)
   |(exfalso;simp_all;done)
theorem Abv (i:Image) (r:Req) (fF:F7 i r.lO r.lT true=0) (mY:Int) (gY:Fi i r.lO r.lT true=mY) (ht:0<=mY/\mY<3) (he:MU (Aj i.m mY) r.oC=false) (w:List Wr) (L:Image) (cf:A3z 20 [.agg (Af (Ao i)),.t (.int .i64 mY),.t (.bool r.oC),.t (.int .i64 0)] [] (.tuple [.agg (Af (Bx ⟨w,L⟩)),.t (.int .i64 0)]) []):A3z 52 [.ref 1 0] [(1,.cells (Af (Ao i++A7 r)))] (.tuple [.t (.slice .any 48 [Bx ⟨w,L⟩]),.agg (Af (Bw (BO 0 0))),.t .nilIface]) [(1,.cells (Af (Ao i++A7 r)))]:=by
 have ch:=FK i r.lO r.lT true;rw[fF,gY]at ch;have cr:=Cn i r;have cd:=MA (Aj i.m mY) r.oC;rw[he]at cd;obtain⟨kind,rtid,aP,lO,ep,part,grp,off,most,oC,b⟩:=r;simp only at ch cr cd cf⊢;rcases AH ht with rfl|rfl|rfl
 all_goals
  refine yG Tryz.func52 ?_
  repeat'(first|exact Au|refine yC ?_ ?_|refine⟨λh=>?_⟩|refine BA 1 19 ?_|refine BA 4 13 ?_|refine Ahc [(1,1)] [(1,1)] ?_ (c:=(cr _ Ad))|refine D4 6 16 [(15,14)] [0,1,3,7,0,0,32,96,224,480,1023,2047,4095,4095,0,24575,65535] ?_|fail)
  all_goals first
   |(refine A0 [3,7] Y Y Y (As ⟨A9,AC ?_,A3l _,trivial⟩)
     exact AA)
   |(refine A0 [3,7] Y Y Y (As ⟨Ay,AC ?_,A3l _,trivial⟩)
     exact AA)
   |(exfalso;omega)
   |(exfalso;simp_all;done)
theorem Abu (i:Image) (r:Req) (fF:F7 i r.lO r.lT true=0) (mY:Int) (gY:Fi i r.lO r.lT true=mY) (ht:0<=mY/\mY<3) (he:MU (Aj i.m mY) r.oC=false) (n:Int) (hn:n≠0) (cf:A3z 20 [.agg (Af (Ao i)),.t (.int .i64 mY),.t (.bool r.oC),.t (.int .i64 0)] [] (.tuple [.agg (Af (Bx P9)),.t (.int .i64 n)]) []):A3z 52 [.ref 1 0] [(1,.cells (Af (Ao i++A7 r)))] (.tuple [.t (.slice .any 48 []),.agg (Af (Bw (BO 0 0))),.t (H3 n)]) [(1,.cells (Af (Ao i++A7 r)))]:=by
 have ch:=FK i r.lO r.lT true;rw[fF,gY]at ch;have cr:=Cn i r;have cd:=MA (Aj i.m mY) r.oC;rw[he]at cd;obtain⟨kind,rtid,aP,lO,ep,part,grp,off,most,oC,b⟩:=r;simp only at ch cr cd cf⊢;rcases AH ht with rfl|rfl|rfl
 all_goals
  refine yG Tryz.func52 ?_
  repeat'(first|exact Au|refine yC ?_ ?_|refine⟨λh=>?_⟩|refine BA 1 19 ?_|refine BA 4 13 ?_|refine Ahc [(1,1)] [(1,1)] ?_ (c:=(cr _ Ad))|refine D4 6 16 [(15,14)] [0,1,3,7,0,0,32,96,224,480,1023,2047,4095,4095,0,24575,65535] ?_|fail)
  all_goals first
   |(refine A0 [3,7] Y Y Y (As ⟨A9,AC ?_,A3l _,trivial⟩)
     exact AA)
   |(refine A0 [3,7] Y Y Y (As ⟨Ay,AC ?_,A3l _,trivial⟩)
     exact AA)
   |(exfalso;omega)
   |(exfalso;simp_all;done)
theorem Ag9 (i:Image) (r:Req) (hq:0<=r.part/\r.part<3) (n:Int) (hn:n≠0) (cf:A3z 83 [.agg (Af (Ax (A5 i r.part))),.t (.int .i64 r.offset),.t (.int .i64 r.most),.t (.bool r.oC)] [] (.tuple [.t (.slice .any 5 []),.t (.int .i64 0),.t (.int .i64 n)]) []):A3z 53 [.ref 1 0] [(1,.cells (Af (Ao i++A7 r)))] (.tuple [.t (.slice .any 48 []),.agg (Af (Bw (BO 0 0))),.t (H3 n)]) [(1,.cells (Af (Ao i++A7 r)))]:=by
 have cr:=Cn i r;obtain⟨kind,rtid,aP,lO,ep,part,grp,off,most,oC,b⟩:=r;simp only at hq cf cr⊢;rcases AH hq with rfl|rfl|rfl
 all_goals
  refine yG Tryz.func53 ?_
  repeat'(first|exact Au|refine yC ?_ ?_|refine⟨λh=>?_⟩|refine BA 1 33 ?_|refine Ahc [(1,1)] [(1,1)] ?_ (c:=(cr _ Ad))|fail)
  all_goals first
   |(refine A0 [3] Y Y Y (As ⟨A9,AC ?_,A3l _,trivial⟩)
     exact AA)
   |(refine A0 [3] Y Y Y (As ⟨Ay,AC ?_,A3l _,trivial⟩)
     exact AA)
   |(exfalso;omega)
   |(exfalso;simp_all;done)
theorem Aha (i:Image) (r:Req) (hq:0<=r.part/\r.part<3) (l:List Row) (n:Int) (cf:A3z 83 [.agg (Af (Ax (A5 i r.part))),.t (.int .i64 r.offset),.t (.int .i64 r.most),.t (.bool r.oC)] [] (.tuple [.t (.slice .any 5 (l.map Aw)),.t (.int .i64 n),.t (.int .i64 0)]) []):A3z 53 [.ref 1 0] [(1,.cells (Af (Ao i++A7 r)))] (.tuple [.t (.slice .any 48 []),.agg (Af (Bw {T1 n with rows:=l})),.t .nilIface]) [(1,.cells (Af (Ao i++A7 r)))]:=by
 obtain⟨kind,rtid,aP,lO,ep,part,grp,off,most,oC,b⟩:=r;simp only at hq cf⊢;rcases AH hq with rfl|rfl|rfl
 all_goals
  refine yG Tryz.func53 ?_
  repeat'(first|exact Au|refine yC ?_ ?_|refine⟨λh=>?_⟩|refine BA 1 33 ?_|fail)
  all_goals first
   |(refine A0 [3] Y Y Y (As ⟨A9,AC ?_,A3l _,trivial⟩)
     exact AA)
   |(refine A0 [3] Y Y Y (As ⟨Ay,AC ?_,A3l _,trivial⟩)
     exact AA)
   |(exfalso;omega)
   |(exfalso;simp_all;done)
theorem Arz (i:Image) (r:Req) (hq:0<=r.part/\r.part<3) (P:Part) (w:List Wr) (n:Int) (hn:n≠0) (cc:A3z 84 [.t (.int .i8 i.vQ),.t (.int .i64 r.part),.agg (Af (Ax (A5 i r.part))),.t (.int .i64 r.offset)] [] (.tuple [.agg (Af (Ax P)),.t (.slice .any 4 (w.map BE)),.t (.int .i64 n)]) []):A3z 56 [.ref 1 0] [(1,.cells (Af (Ao i++A7 r)))] (.tuple [.t (.slice .any 48 []),.agg (Af (Bw (BO 0 0))),.t (H3 n)]) [(1,.cells (Af (Ao i++A7 r)))]:=by
 have cr:=Cn i r;obtain⟨kind,rtid,aP,lO,ep,part,grp,off,most,oC,b⟩:=r;simp only at hq cc cr⊢;rcases AH hq with rfl|rfl|rfl
 all_goals
  refine yG Tryz.func56 ?_
  repeat'(first|exact Au|refine yC ?_ ?_|refine⟨λh=>?_⟩|refine D4 1 34 [(32,10)] [0,1,3,7,15,0,32,96,224,480,0,0,2048,6144,14336,30720,1024,66560,197632,523264,1047552,0,2097152,6291456,14680064,31457280,67108863,134217727,268435455,268435455,268435455,0,2684354559,7516192767,17179869183] ?_|refine Ahc [(1,1)] [(1,1)] ?_ (c:=(cr _ Ad))|fail)
  all_goals first
   |(refine A0 [3,5] Y Y Y (As ⟨A9,AC ?_,A3l _,trivial⟩)
     exact AA)
   |(refine A0 [3,5] Y Y Y (As ⟨Ay,AC ?_,A3l _,trivial⟩)
     exact AA)
   |(exfalso;omega)
   |(exfalso;simp_all;done)
theorem Ar0 (i L:Image) (r:Req) (hq:0<=r.part/\r.part<3) (P:Part) (w:List Wr) (cc:A3z 84 [.t (.int .i8 i.vQ),.t (.int .i64 r.part),.agg (Af (Ax (A5 i r.part))),.t (.int .i64 r.offset)] [] (.tuple [.agg (Af (Ax P)),.t (.slice .any 4 (w.map BE)),.t (.int .i64 0)]) []) (cs:A3z 72 [.agg (Af (Ao (CP i r.part P))),.t (.slice .any 4 (w.map BE))] [] (.tuple [.agg (Af (Bx ⟨w,L⟩)),.t .nilIface]) []):A3z 56 [.ref 1 0] [(1,.cells (Af (Ao i++A7 r)))] (.tuple [.t (.slice .any 48 [Bx ⟨w,L⟩]),.agg (Af (Bw (BO 0 0))),.t .nilIface]) [(1,.cells (Af (Ao (CP i r.part P)++A7 r)))]:=by
 obtain⟨kind,rtid,aP,lO,ep,part,grp,off,most,oC,b⟩:=r;simp only at hq cc cs⊢;rcases AH hq with rfl|rfl|rfl
 all_goals
  refine yG Tryz.func56 ?_
  repeat'(first|exact Au|refine yC ?_ ?_|refine⟨λh=>?_⟩|refine D4 1 34 [(32,10)] [0,1,3,7,15,0,32,96,224,480,0,0,2048,6144,14336,30720,1024,66560,197632,523264,1047552,0,2097152,6291456,14680064,31457280,67108863,134217727,268435455,268435455,268435455,0,2684354559,7516192767,17179869183] ?_|refine D4 4 10 [(11,1)] [0,0,2,6,14,30,0,1,129,385,1023,2047] ?_|fail)
  all_goals first
   |(refine A0 [3,5,8] Y Y Y (As ⟨A9,AC ?_,A3l _,trivial⟩)
     exact AA)
   |(refine A0 [3,5,8] Y Y Y (As ⟨Ay,AC ?_,A3l _,trivial⟩)
     exact AA)
   |(exfalso;omega)
   |(exfalso;simp_all;done)
