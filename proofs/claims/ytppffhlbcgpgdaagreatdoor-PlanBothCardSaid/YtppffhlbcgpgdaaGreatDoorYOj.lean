/- Contracts of the coordinator's state: a group's offset that is kept, or committed. -/
import Derived.Test.YtppffhlbcgpgdaaGreatDoorYKB
import Derived.Test.YtppffhlbcgpgdaaGreatDoorYKO
import Derived.Test.YtppffhlbcgpgdaaGreatDoorYXV
set_option linter.all false
set_option maxRecDepth 100000
set_option maxHeartbeats 8000000
namespace Go.Proofs.YtppffhlbcgpgdaaGreatDoor
open Go.Am
attribute [local irreducible] Decidable.decide Tr A6 CG EJ
theorem Age (s:MState) (hs:SmallM s) (mY:Int) (p:Pend) (h1:0<=mY/\mY<3) (hl:(Aj s mY).rH.length<=900) (hp:IW (Aj s mY) p=0):A3z 146 [.ref 1 0,.agg (Af (Al (e2 mY p)))] [(1,.cells (Af (Az s)))] (.t .nilIface) [(1,.cells (Af (Az (AO s mY (R6 (Aj s mY) p)))))]:=by
 have ci:=WS (Aj s mY) (hs.mY mY) hl p;rw[hp]at ci;rw[Kr];rcases AH h1 with rfl|rfl|rfl
 all_goals
  refine yG Tryz.func146 ?_
  repeat'(first|exact Au|refine yC ?_ ?_|refine⟨λh=>?_⟩|refine BA 13 6 ?_|refine BA 38 10 ?_|refine D4 1 8 [(8,10)] [0,0,2,1,9,31,63,0,255] ?_|refine D4 26 6 [(7,1)] [0,0,2,0,1,17,63,127] ?_|fail)
  all_goals first
   |exact A0 [3,5] Y Y Y (A3l _)
theorem Agd (s:MState) (hs:SmallM s) (mY:Int) (p:Pend) (h1:0<=mY/\mY<3) (hl:(Aj s mY).rH.length<=900) (n:Int) (hp:IW (Aj s mY) p=n) (hn:n≠0):A3z 146 [.ref 1 0,.agg (Af (Al (e2 mY p)))] [(1,.cells (Af (Az s)))] (.t (V9 [97,32,109,111,118,101] n)) [(1,.cells (Af (Az (AO s mY BX))))]:=by
 have ci:=WS (Aj s mY) (hs.mY mY) hl p;rw[show R6 (Aj s mY) p=BX by unfold R6;rw[hp,WU hn]]at ci;rw[hp]at ci;rw[Kr];rcases AH h1 with rfl|rfl|rfl
 all_goals
  refine yG Tryz.func146 ?_
  repeat'(first|exact Au|refine Cr 182 364 Y Y Y Y Y ?_|refine yC ?_ ?_|refine⟨λh=>?_⟩|refine BA 13 6 ?_|refine BA 38 10 ?_|refine D4 1 8 [(8,10)] [0,0,2,1,9,31,63,0,255] ?_|refine D4 26 6 [(7,1)] [0,0,2,0,1,17,63,127] ?_|fail)
  all_goals first
   |(exfalso;omega)
   |exact A0 [3,5] Y Y Y (A3l _)
set_option maxHeartbeats 16000000 in
theorem Akx (s:MState) (p:Pend) (h:AZ p=true):A3z 146 [.ref 1 0,.agg (Af (Al (e5 p)))] [(1,.cells (Af (Az s)))] (.t .nilIface) [(1,.cells (Af (Az (Hw s p.sZ p.part p.offset))))]:=by
 rw[LV];have dO:IntKind.i64.wrap (0+1)=1:=by decide+kernel
 obtain⟨hg,jX⟩:=Kg h;obtain⟨pg,pp,po⟩:=p;simp only at hg jX;rcases hg with rfl|rfl<;>rcases jX with rfl|rfl|rfl
 all_goals
  refine yG Tryz.func146 ?_
  repeat'(first|exact Au|refine yC ?_ ?_|refine⟨λh=>?_⟩|refine BA 13 6 ?_|refine D4 1 8 [(8,10)] [0,0,2,1,9,31,63,0,255] ?_|refine D4 38 10 [(11,1)] [0,0,2,0,8,0,32,1,129,391,1023,2047] ?_|refine B6 2 ?_|refine BH ?_|fail)
  all_goals first
   |exact A0 [3,5,12] Y Y Y (A3l _)
   |(exfalso;rw[dO]at h;have h1:(1:Int)<1:=h;omega)
   |(exfalso;exact(by assumption: ¬((0:Int)<1)) Ae)
