/- Contracts of ages: who is due, who has ended; a tick. -/
import Derived.Test.YtppffhlbcgpgdaaGreatDoorYKC
set_option linter.all false
set_option maxRecDepth 100000
set_option maxHeartbeats 8000000
namespace Go.Proofs.YtppffhlbcgpgdaaGreatDoor
open Go.Am
attribute [local irreducible] Decidable.decide Tr A6 CG EJ
theorem Rz (c:Coord):A3z 128 [.agg (Af (AN c))] [] (.t (.bool (YW c))) []:=by
 unfold YW;refine yF Tryz.func128 ?_
 repeat'(first|exact Au|refine yC ?_ ?_|refine⟨λh=>?_⟩|fail)
 all_goals first
  |(refine Ah Y (BL ?_);simp_all;done)
  |(refine Ah Y (BL ?_);simp_all;omega)
theorem MA (c:Coord) (oC:Bool):A3z 82 [.agg (Af (AN c)),.t (.bool oC)] [] (.t (.bool (MU c oC))) []:=by
 unfold MU;cases oC
 all_goals
  refine yF Tryz.func82 ?_
  repeat'(first|exact Au|refine yC ?_ ?_|refine⟨λh=>?_⟩|fail)
  all_goals first
   |exact Ah Y (BL Y)
   |(refine Ah Y (BL ?_);simp_all;done)
   |(exfalso;simp_all;done)
theorem Anr (c:Coord) (hc:SmallC c):A3z 244 [.agg (Af (AN c))] [] (.agg (Af (AN c))) []:=by
 have c1:=GI c.parts hc.parts;have c2:=Gy c.rH hc.rH;refine yF Tryz.func244 ?_
 repeat'(first|exact Au|refine yC ?_ ?_|refine⟨λh=>?_⟩|fail)
 all_goals(refine Ah Y ?_;exact AA)
theorem Ar7 {s:Int} (h:Ci s 4=true):s=2:=by
 unfold Ci at h
 repeat' split at h
 all_goals simp_all
theorem Ae3 (c:Coord) (hc:SmallC c):A3z 245 [.agg (Af (AN c))] [] (.agg (Af (AN (DZ c)))) []:=by
 have ck:=G6 c hc 4 true;have co:=Ny c hc;unfold DZ;by_cases hm:BD c=false
 ·have e:ER c 4 true≠0:=by unfold ER;rw[WU (Or.inr hm)];decide
  rw[WU e];simp only[FG,hm,or_true,Xs]at ck;refine yF Tryz.func245 ?_
  repeat'(first|exact Au|refine yC ?_ ?_|refine⟨λh=>?_⟩|fail)
  all_goals first
   |exact Ah Y (A3m Y)
   |(exfalso;simp_all;done)
 ·have hm:BD c=true:=by revert hm;cases BD c<;>simp
  by_cases hb:Ci c.state 4=false
  ·have e:ER c 4 true≠0:=by unfold ER;rw[Ug (by rw[hm];decide),WU hb];decide
   rw[WU e];simp only[FG,hm,hb,A50,or_self,ZF,Xs]at ck;refine yF Tryz.func245 ?_
   repeat'(first|exact Au|refine yC ?_ ?_|refine⟨λh=>?_⟩|fail)
   all_goals first
    |exact Ah Y (A3m Y)
    |(exfalso;simp_all;done)
  ·have hb:Ci c.state 4=true:=by revert hb;cases Ci c.state 4<;>simp
   have e:ER c 4 true=0:=by unfold ER;rw[Ug (by rw[hm];decide),Ug (by rw[hb];decide)]
   rw[Ug (by rw[e];decide)];simp only[FG,hm,hb,A50,or_self,ZF]at ck;have hs:=Ar7 hb;have hr:=Iz (Fm hm Aa);have hw:IntKind.i64.wrap (c.vZ+1)=c.vZ+1:=A1 Aa Aa;have cW:Si (c.vZ+1) 1048576=if c.vZ+1<=1048576 then c.vZ+1 else 1048576:=by unfold Si;split<;>split<;>omega
   rw[<-cW];refine yF Tryz.func245 ?_
   repeat'(first|exact Au|rw[hw]|refine yC ?_ ?_|refine⟨λh=>?_⟩|fail)
   all_goals first
    |exact Ah Y (A3m Y)
    |(exfalso;simp_all;done)
def Al4 (s:MState):AV:=.func (.func 195) [.agg (Af (Az s))] []
theorem IV {c:Coord} (h:SmallC c):SmallC (DZ c):=by
 unfold DZ;split
 ·exact h
 ·exact⟨h.parts,h.rH⟩
theorem Ls (s:MState) (hs:SmallM s) (mY:Int) (ht:0<=mY/\mY<3):A3z 195 [.agg (Af (Az s)),.t (.int .i64 mY)] [] (.agg (Af (AN (DZ (Aj s mY))))) []:=by
 have c1:=Ae3 (Aj s mY) (hs.mY mY);have c2:=Anr (DZ (Aj s mY)) (IV (hs.mY mY));generalize DZ (Aj s mY)=D at c1 c2⊢;rcases AH ht with rfl|rfl|rfl
 all_goals
  refine yF Tryz.func195 ?_
  repeat'(first|exact Au|refine yC ?_ ?_|refine⟨λh=>?_⟩|fail)
  all_goals first
   |exact Ah Y (A3m Y)
theorem Aho (s:MState) (hs:SmallM s):A3z 194 [.agg (Af (Az s)),Al4 s] [] (.agg (Af (Az {s with t0:=DZ s.t0,t1:=DZ s.t1,t2:=DZ s.t2}))) []:=by
 have c0:=Ls s hs 0 Aa;have c1:=Ls s hs 1 Aa;have c2:=Ls s hs 2 Aa;simp only[Aj,Int.reduceEq,Xs,ZF]at c0 c1 c2;generalize DZ s.t0=D0 at c0⊢;generalize DZ s.t1=D1 at c1⊢;generalize DZ s.t2=D2 at c2⊢;have dO:IntKind.i64.wrap (0+1)=1:=by decide+kernel
 have dD:IntKind.i64.wrap (1+1)=2:=by decide+kernel
 have dZ:IntKind.i64.wrap (2+1)=3:=by decide+kernel
 unfold Al4;refine yF Tryz.func194 ?_
 repeat'(first|exact Au|refine yC ?_ ?_|refine⟨λh=>?_⟩|refine B6 5 ?_|refine BH ?_|rw[dO]|rw[dD]|rw[dZ]|fail)
 all_goals first
  |exact Ah Y (A3m Y)
theorem Ahn (s:MState) (hs:SmallM s):A3z 127 [.agg (Af (Az s))] [] (.agg (Af (Az (IU s)))) []:=by
 have cm:=DK s hs.t0 hs.t1 hs.t2;have ce:=Aho s hs;unfold Al4 at ce;unfold IU;generalize Bv s=M at cm⊢;cases M
 all_goals
  simp only[Xs,ZF,A50];refine yF Tryz.func127 ?_
  repeat'(first|exact Au|refine yC ?_ ?_|refine⟨λh=>?_⟩|fail)
  all_goals first
   |exact Ah Y (A3m Y)
   |(exfalso;simp_all;done)
theorem Ans (s:MState) (hs:SmallM s):A3z 86 [.agg (Af (Az s))] [] (.t (.slice .any 1 ((TA s).map Cy))) []:=by
 have cm:=DK s hs.t0 hs.t1 hs.t2;have c0:=Rz s.t0;have c1:=Rz s.t1;have c2:=Rz s.t2;have dO:IntKind.i64.wrap (0+1)=1:=by decide+kernel
 have dD:IntKind.i64.wrap (1+1)=2:=by decide+kernel
 have dZ:IntKind.i64.wrap (2+1)=3:=by decide+kernel
 unfold TA;generalize Bv s=M at cm⊢;generalize YW s.t0=D0 at c0⊢;generalize YW s.t1=D1 at c1⊢;generalize YW s.t2=D2 at c2⊢;cases M
 ·refine yF Tryz.func86 ?_
  repeat'(first|exact Au|refine yC ?_ ?_|refine⟨λh=>?_⟩|fail)
  all_goals first
   |exact Ah Y Ay
   |(exfalso;simp_all;done)
 cases D0<;>cases D1<;>cases D2
 all_goals
  refine yF Tryz.func86 ?_
  repeat'(first|exact Au|refine yC ?_ ?_|refine⟨λh=>?_⟩|refine B6 5 ?_|refine BH ?_|rw[dO]|rw[dD]|rw[dZ]|fail)
  all_goals first
   |exact Ah Y (A3m Y)
   |exact Ah Y Ay
   |(exfalso;simp_all;done)
