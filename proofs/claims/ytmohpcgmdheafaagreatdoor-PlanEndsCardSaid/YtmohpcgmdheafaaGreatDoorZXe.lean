/- Contracts of transactional ids: what may be, and which moves. -/
import Derived.Test.YtmohpcgmdheafaaGreatDoorZK2
set_option linter.unusedVariables false
set_option linter.unusedSimpArgs false
set_option maxRecDepth 100000
set_option maxHeartbeats 8000000
namespace Go.Proofs.YtmohpcgmdheafaaGreatDoor
open Go.Am
attribute [local irreducible] Decidable.decide Tr A2 hSK hSW
theorem Aez (s m:Int):A17 69 [.t (.int .i8 s),.t (.int .i8 m)] [] (.t (.bool (CY s m))) []:=by
 refine ct0 Ag Tryz.func69 Y false Y Y ?_
 repeat'(first|exact prB|refine stC ?_|refine stU (fun h=>?_) fun h=>?_|refine stN (fun b hb=>?_)|fail)
 all_goals(refine Ai Y (AP ?_);simp_all[CY];try rfl)
theorem IE (l:List Int) (hl:l.length<=1000000):A17 34 [.t (.slice .any 1 (l.map Bz))] [] (.t (.slice .any 1 (l.map Bz))) []:=by
 refine ct0 Ag Tryz.func34 Y false Y Y ?_
 have hlm:(l.map Bz).length=l.length:=List.length_map ..
 repeat'(first|exact prB|refine stC ?_|refine stU (fun h=>?_) fun h=>?_|refine stN (fun b hb=>?_)|refine LH Ag Y Y Y Y Y Y Y Y Y Y Y Y Y (by simp;omega) ?_|fail)
 ·refine Ai Y ?_
  have h0:=hb h
  rw[h0];exact Ak
 ·refine Ai Y (A1y ?_)
  simp[B5]
  exact List.take_of_length_le Ac
theorem GH (l:List Pend) (hl:l.length<=1000000):A17 70 [.t (.slice .any 3 (l.map AB))] [] (.t (.slice .any 3 (l.map AB))) []:=by
 refine ct0 Ag Tryz.func70 Y false Y Y ?_
 have hlm:(l.map AB).length=l.length:=List.length_map ..
 repeat'(first|exact prB|refine stC ?_|refine stU (fun h=>?_) fun h=>?_|refine stN (fun b hb=>?_)|refine LH Ag Y Y Y Y Y Y Y Y Y Y Y Y Y (by simp;omega) ?_|fail)
 ·refine Ai Y ?_
  have h0:=hb h
  rw[h0];exact Ak
 ·refine Ai Y (A1y ?_)
  simp[B5]
  exact List.take_of_length_le Ac
theorem Q7 (c:Coord) (hc:SmallC c):A17 33 [.agg (Ah (A4 c))] [] (.agg (Ah (A4 c))) []:=by
 have c1:=IE c.parts hc.parts
 have c2:=GH c.pends hc.pends
 refine ct0 Ag Tryz.func33 Y false Y Y ?_
 repeat'(first|exact prB|refine stC ?_|refine stU (fun h=>?_) fun h=>?_|refine stN (fun b hb=>?_)|refine stL ?_ (c:=c1)|refine stL ?_ (c:=c2)|fail)
 all_goals(refine Ai Y ?_;repeat'(first|exact A1x _|exact Ak|exact Ar|exact trivial|refine AA ?_|refine Ap ?_|refine And.intro ?_ ?_))
theorem JO (c:Coord) (hc:SmallC c):A17 64 [.agg (Ah (A4 c))] [] (.t (.bool (Bp c))) []:=by
 have cr:=Zr c hc
 have cs:=(SU c BD hc).args (show DU [AV.agg (Ah (A4 c)),AV.agg (Ah Qw.zero)] [AV.agg (Ah (A4 c)),AV.agg (Ah (A4 BD))]from⟨A1x _,AA (show DU _ _ from⟨A1x _,A1x _,A1x _,A1x _,A1x _,Ak,Ak,A1x _,trivial⟩),trivial⟩)
 have hpa:(((c.parts.map Bz).length:Int)=0)↔c.parts=[]:=by simp
 have hpe:(((c.pends.map AB).length:Int)=0)↔c.pends=[]:=by simp
 unfold Bp
 generalize DZ c=R at cr⊢
 generalize decide (c=BD)=Z at cs⊢
 refine ct0 Ag Tryz.func64 Y false Y Y ?_
 repeat'(first|exact prB|refine stC ?_|refine stU (fun h=>?_) fun h=>?_|refine stN (fun b hb=>?_)|refine stL ?_ (c:=cr)|refine stL ?_ (c:=cs)|fail)
 all_goals refine Ai Y (AP ?_)
 all_goals simp only[hpa,hpe]at*
 all_goals first
  |(simp_all;done)
  |(simp_all;omega)
  |(simp_all;rfl)
end Go.Proofs.YtmohpcgmdheafaaGreatDoor
