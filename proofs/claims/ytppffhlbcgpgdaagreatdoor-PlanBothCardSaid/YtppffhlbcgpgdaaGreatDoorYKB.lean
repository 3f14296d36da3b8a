/- Contracts of the coordinator's state: a producer, the begin of a transactional id. -/
import Derived.Test.YtppffhlbcgpgdaaGreatDoorYK19
set_option linter.all false
set_option maxRecDepth 100000
set_option maxHeartbeats 8000000
namespace Go.Proofs.YtppffhlbcgpgdaaGreatDoor
open Go.Am
attribute [local irreducible] Decidable.decide Tr A6 CG EJ
theorem Asc:TR 264 1:=Zp Avs
theorem Aq0:Aib 264 1:=Au4
theorem Af9 (i:T) (n:Int):A3z 147 [.t (.iface 264 (.ptr [i,.int .i64 n]))] [] (.t (.int .i64 n)) []:=by
 have ci:=Yr Aq0 [i,.int .i64 n] n 2 Y;by_cases h2:n=2
 ·subst h2;rw[A32 Y]at ci;refine yF Tryz.func147 ?_
  repeat'(first|exact Au|refine yA ?_ ?_|refine⟨λh=>?_⟩|refine B9 (λ_ _ _ _=>?_)|refine AY (λ_ _ _ _ _=>?_)|refine B3 ?_|refine Dw Ad ?_|refine Du Ad ?_|refine Dv Ad Y ?_|fail)
  all_goals exact Ah Y (A3m Y)
 ·rw[A44 h2]at ci;refine yF Tryz.func147 ?_
  repeat'(first|exact Au|refine yA ?_ ?_|refine⟨λh=>?_⟩|refine B9 (λ_ _ _ _=>?_)|refine AY (λ_ _ _ _ _=>?_)|refine B3 ?_|refine Dw Ad ?_|refine Du Ad ?_|refine Dv Ad Y ?_|refine BT [(6,1)] [(1,6)] (Qy Asc [i,.int .i64 n] n 0 Y) ?_|fail)
  all_goals exact Ah Y (A3m Y)
def V9 (w:Bs) (n:Int):T:=.iface 264 (.ptr [.str w,.int .i64 n])
theorem XW:Aq (AV.agg (Af Awk.zero)) (AV.agg (Af (Az NO))):=by
 refine AC ?_;exact AA
def DO (s:MState) (n:Int):MState:={s with vP:=n}
theorem Agi (s:MState) (hs:SmallM s) (mY aP:Int) (h1:0<=mY/\mY<3) (h0:(Aj s mY).state=0) (n9:0<=s.vP/\s.vP<8) (hi:EP (Aj s mY) (s.vP+1) aP=0):A3z 146 [.ref 1 0,.agg (Af (Al (e1 mY aP)))] [(1,.cells (Af (Az s)))] (.t .nilIface) [(1,.cells (Af (Az (DO (AO s mY (Ek (Aj s mY) (s.vP+1) aP)) (s.vP+1)))))]:=by
 have ci:=O7 (Aj s mY) (hs.mY mY) (s.vP+1) aP;rw[hi]at ci;have hw:IntKind.i64.wrap (s.vP+1)=s.vP+1:=A1 Aa Aa;rw[HU];rcases AH h1 with rfl|rfl|rfl
 all_goals
  simp only[Aj,Int.reduceEq,Xs,ZF]at h0;refine yG Tryz.func146 ?_
  repeat'(first|exact Au|rw[hw]|refine yA ?_ ?_|refine⟨λh=>?_⟩|refine B9 (λ_ _ _ _=>?_)|refine AY (λ_ _ _ _ _=>?_)|refine B3 ?_|refine Dw Ad ?_|refine Du Ad ?_|refine Dv Ad Y ?_|refine BA 13 6 ?_|refine BA 38 10 ?_|refine D4 1 8 [(8,10)] [0,0,2,1,9,31,63,0,255] ?_|refine D4 20 6 [(7,1)] [0,0,2,0,1,17,63,127] ?_|fail)
  all_goals first
   |(exfalso;omega)
   |exact A0 [3,5] Y Y Y (A3l _)
theorem Agh (s:MState) (mY aP:Int) (h1:0<=mY/\mY<3) (h0:(Aj s mY).state=0) (n9:s.vP=8):A3z 146 [.ref 1 0,.agg (Af (Al (e1 mY aP)))] [(1,.cells (Af (Az s)))] (.t (V9 [97,32,112,114,111,100,117,99,101,114] 102)) [(1,.cells (Af (Az s)))]:=by
 have hw:IntKind.i64.wrap (s.vP+1)=s.vP+1:=A1 Aa Aa;rw[HU];rcases AH h1 with rfl|rfl|rfl
 all_goals
  simp only[Aj,Int.reduceEq,Xs,ZF]at h0;refine yG Tryz.func146 ?_
  repeat'(first|exact Au|rw[hw]|refine Cr 55 110 Y Y Y Y Y ?_|refine yA ?_ ?_|refine⟨λh=>?_⟩|refine B9 (λ_ _ _ _=>?_)|refine AY (λ_ _ _ _ _=>?_)|refine B3 ?_|refine Dw Ad ?_|refine Du Ad ?_|refine Dv Ad Y ?_|refine BA 13 6 ?_|refine BA 38 10 ?_|refine D4 1 8 [(8,10)] [0,0,2,1,9,31,63,0,255] ?_|fail)
  all_goals first
   |(exfalso;omega)
   |exact A0 [3,5] Y Y Y (A3l _)
theorem Agg (s:MState) (hs:SmallM s) (mY aP:Int) (h1:0<=mY/\mY<3) (h0:(Aj s mY).state≠0) (hp:(Aj s mY).lO<=8) (hi:EP (Aj s mY) (Aj s mY).lO aP=0):A3z 146 [.ref 1 0,.agg (Af (Al (e1 mY aP)))] [(1,.cells (Af (Az s)))] (.t .nilIface) [(1,.cells (Af (Az (AO s mY (Ek (Aj s mY) (Aj s mY).lO aP)))))]:=by
 have ci:=O7 (Aj s mY) (hs.mY mY) (Aj s mY).lO aP;rw[hi]at ci;rw[HU];rcases AH h1 with rfl|rfl|rfl
 all_goals
  simp only[Aj,Int.reduceEq,Xs,ZF]at h0 hp;refine yG Tryz.func146 ?_
  repeat'(first|exact Au|refine yA ?_ ?_|refine⟨λh=>?_⟩|refine B9 (λ_ _ _ _=>?_)|refine AY (λ_ _ _ _ _=>?_)|refine B3 ?_|refine Dw Ad ?_|refine Du Ad ?_|refine Dv Ad Y ?_|refine BA 13 6 ?_|refine BA 38 10 ?_|refine D4 1 8 [(8,10)] [0,0,2,1,9,31,63,0,255] ?_|refine D4 20 6 [(7,1)] [0,0,2,0,1,17,63,127] ?_|fail)
  all_goals first
   |(exfalso;omega)
   |exact A0 [3,5] Y Y Y (A3l _)
theorem Agf (s:MState) (hs:SmallM s) (mY aP:Int) (h1:0<=mY/\mY<3) (h0:(Aj s mY).state≠0) (hp:(Aj s mY).lO<=8) (n:Int) (hi:EP (Aj s mY) (Aj s mY).lO aP=n) (hn:n≠0):A3z 146 [.ref 1 0,.agg (Af (Al (e1 mY aP)))] [(1,.cells (Af (Az s)))] (.t (V9 [97,32,109,111,118,101] n)) [(1,.cells (Af (Az s)))]:=by
 have ci:=O7 (Aj s mY) (hs.mY mY) (Aj s mY).lO aP;rw[hi]at ci;rw[HU];rcases AH h1 with rfl|rfl|rfl
 all_goals
  simp only[Aj,Int.reduceEq,Xs,ZF]at h0 hp;refine yG Tryz.func146 ?_
  repeat'(first|exact Au|refine Cr 182 364 Y Y Y Y Y ?_|refine yA ?_ ?_|refine⟨λh=>?_⟩|refine B9 (λ_ _ _ _=>?_)|refine AY (λ_ _ _ _ _=>?_)|refine B3 ?_|refine Dw Ad ?_|refine Du Ad ?_|refine Dv Ad Y ?_|refine BA 13 6 ?_|refine BA 38 10 ?_|refine D4 1 8 [(8,10)] [0,0,2,1,9,31,63,0,255] ?_|refine D4 20 6 [(7,1)] [0,0,2,0,1,17,63,127] ?_|fail)
  all_goals first
   |(exfalso;omega)
   |exact A0 [3,5] Y Y Y (A3l _)
theorem Agk (s:MState) (n9:0<=s.vP/\s.vP<8):A3z 146 [.ref 1 0,.agg (Af (Al e0))] [(1,.cells (Af (Az s)))] (.t .nilIface) [(1,.cells (Af (Az (DO s (s.vP+1)))))]:=by
 have hw:IntKind.i64.wrap (s.vP+1)=s.vP+1:=A1 Aa Aa;rw[Ks];refine yG Tryz.func146 ?_
 repeat'(first|exact Au|rw[hw]|refine yA ?_ ?_|refine⟨λh=>?_⟩|refine B9 (λ_ _ _ _=>?_)|refine AY (λ_ _ _ _ _=>?_)|refine B3 ?_|refine Dw Ad ?_|refine Du Ad ?_|refine Dv Ad Y ?_|refine BA 13 6 ?_|refine BA 38 10 ?_|refine D4 1 8 [(8,10)] [0,0,2,1,9,31,63,0,255] ?_|fail)
 all_goals first
  |(exfalso;omega)
  |exact A0 [3,5] Y Y Y (A3l _)
theorem Agj (s:MState) (n9:s.vP=8):A3z 146 [.ref 1 0,.agg (Af (Al e0))] [(1,.cells (Af (Az s)))] (.t (V9 [97,32,112,114,111,100,117,99,101,114] 102)) [(1,.cells (Af (Az s)))]:=by
 rw[Ks];refine yG Tryz.func146 ?_
 repeat'(first|exact Au|refine Cr 82 164 Y Y Y Y Y ?_|refine yA ?_ ?_|refine⟨λh=>?_⟩|refine B9 (λ_ _ _ _=>?_)|refine AY (λ_ _ _ _ _=>?_)|refine B3 ?_|refine Dw Ad ?_|refine Du Ad ?_|refine Dv Ad Y ?_|refine BA 13 6 ?_|refine BA 38 10 ?_|refine D4 1 8 [(8,10)] [0,0,2,1,9,31,63,0,255] ?_|fail)
 all_goals first
  |(exfalso;omega)
  |exact A0 [3,5] Y Y Y (A3l _)
theorem Aks (s S':MState) (hs:SmallM s) (dS:SmallM S') (x:MEntry) (hm:Bv s=true) (fN:Bv S'=true) (cy:A3z 144 [.agg (Af (Al x))] [] (.t (.bool true)) []) (cv:A3z 146 [.ref 1 0,.agg (Af (Al x))] [(1,.cells (Af (Az s)))] (.t .nilIface) [(1,.cells (Af (Az S')))]):A3z 100 [.agg (Af (Az s)),.agg (Af (Al x))] [] (.tuple [.agg (Af (Az S')),.t (.int .i64 0)]) []:=by
 have c0:=DK s hs.t0 hs.t1 hs.t2;have c1:=DK _ dS.t0 dS.t1 dS.t2;rw[hm]at c0;rw[fN]at c1;have co:=QK s hs.t0 hs.t1 hs.t2;refine yF Tryz.func100 ?_
 repeat'(first|exact Au|refine yA ?_ ?_|refine⟨λh=>?_⟩|refine B9 (λ_ _ _ _=>?_)|refine AY (λ_ _ _ _ _=>?_)|refine B3 ?_|refine Dw Ad ?_|refine Du Ad ?_|refine Dv Ad Y ?_|refine BT [(12,1)] [(1,12)] cv ?_|fail)
 all_goals first
  |(exfalso;simp_all;done)
  |exact Ah Y (A3m Y)
theorem Akr (s S':MState) (hs:SmallM s) (x:MEntry) (hm:Bv s=true) (cy:A3z 144 [.agg (Af (Al x))] [] (.t (.bool true)) []) (w:Bs) (n:Int) (cv:A3z 146 [.ref 1 0,.agg (Af (Al x))] [(1,.cells (Af (Az s)))] (.t (V9 w n)) [(1,.cells (Af (Az S')))]):A3z 100 [.agg (Af (Az s)),.agg (Af (Al x))] [] (.tuple [.agg (Af (Az NO)),.t (.int .i64 n)]) []:=by
 have c0:=DK s hs.t0 hs.t1 hs.t2;rw[hm]at c0;have co:=QK s hs.t0 hs.t1 hs.t2;have cc:=Af9 (.str w) n;unfold V9 at cv;refine yF Tryz.func100 ?_
 repeat'(first|exact Au|refine yA ?_ ?_|refine⟨λh=>?_⟩|refine B9 (λ_ _ _ _=>?_)|refine AY (λ_ _ _ _ _=>?_)|refine B3 ?_|refine Dw Ad ?_|refine Du Ad ?_|refine Dv Ad Y ?_|refine BT [(12,1)] [(1,12)] cv ?_|fail)
 all_goals first
  |(exfalso;simp_all;done)
  |exact Ah Y (As ⟨XW,A3l _,trivial⟩)
