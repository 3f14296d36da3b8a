/- Contracts of the program: copies of parts, of states, of images. -/
import Derived.Test.YtppffhlbcgpgdaaGreatDoorYK15
set_option linter.all false
set_option maxRecDepth 100000
set_option maxHeartbeats 8000000
namespace Go.Proofs.YtppffhlbcgpgdaaGreatDoor
open Go.Am
attribute [local irreducible] Decidable.decide Tr A6 CG EJ
theorem Ah4 (r:Seen):A3z 226 [.agg (Af (AR r))] [] (.agg (Af (AR r))) []:=by
 refine yF Tryz.func226 ?_
 repeat'(first|exact Au|refine yC ?_ ?_|refine⟨λh=>?_⟩|fail)
 exact Ah Y (A3m Y)
theorem Acn (l:List Seen) (f:Nat) (hf: ∀r∈l,A3z f [.agg (Af (AR r))] [] (.agg (Af (AR r))) []) (aE:l≠[]) (hl:l.length<=1000000):A3z 225 [.t (.slice .any 3 (l.map AR)),.t (.func (.func f) [] [])] [] (.row 24 3 0 l.length) [(24,.grow 3 (l.map AR))]:=by
 have aQ:(l.map AR).length=l.length:=Ts ..;have dH:0<l.length:=A54.2 aE;have dQ:(((l.map AR).length:Nat):Int)=(l.length:Int):=by rw[aQ]
 have hz:l.length*(24+1)<=140737488355328:=Aa;refine yG Tryz.func225 ?_
 repeat'(first|exact Au|refine yB ?_ ?_|refine⟨λh=>?_⟩|refine DH Ai Y Y Y Y Y Y Y dQ dQ Y Y (WW _) hz ?_|fail)
 ·exfalso;simp_all
 refine AW (ι:=Nat) (λi=>i<=l.length) (λi=>[(1,.t (.func (.func f) [] [])),(5,.row 24 3 0 l.length),(13,.t (.slice .any 3 (l.map AR))),(14,.t (.int .i64 ((l.map AR).length:Int))),(15,.t (.int .i64 i))]) (λi=>[(24,.grow 3 ((l.map AR).take i++List.replicate ((l.map AR).length-i) [.int .i64 0,.int .i64 0,.int .i64 0]))]) (λi=>l.length-i) 0 Ac ?_ ?_
 ·exact Bb [] Aa6 (by simp;rfl)
 rintro i hi;by_cases aC:i<l.length
 ·have hr:l[i]?=some l[i]:=Kv aC;have hc:=hf l[i] (Agz aC);generalize l[i]=r at hr hc;have hg:((l.map AR).take i++List.replicate ((l.map AR).length-i) [.int .i64 0,.int .i64 0,.int .i64 0])[0+i]?=some [.int .i64 0,.int .i64 0,.int .i64 0]:=by rw[Atj];exact Hm (by rw[aQ];exact aC)
  repeat'(first|exact Au|refine yC ?_ ?_|refine⟨λh=>?_⟩|refine BZ hc ?_|refine Cb Ai (kc:=i) Y Y Y Y Y Y Y Y aC Y ?_|refine E9 Ai (ts:=AR r) Y Y Y Y Y Y Y Y Y Y hg Y Y ?_|fail)
  refine AM (i+1) aC Aa [7] (Ag Y Y (Ag Y Y (Ag Y Y (Ag Y Y (Ag Y (by rw[A1 Aa Aa];rfl) A8))))) ?_;have cA:F3 [.int .i64 0,.int .i64 0,.int .i64 0] 0 (AR r)=AR r:=rfl;rw[<-GZ (C8 hr)];simp only[Atj];rw[cA];rfl
 ·repeat'(first|exact Au|refine yC ?_ ?_|refine⟨λh=>?_⟩|fail)
  have e:(l.map AR).take i++List.replicate ((l.map AR).length-i) [.int .i64 0,.int .i64 0,.int .i64 0]=l.map AR:=by
   rw[QQ Aa,show(l.map AR).length-i=0 from Aa];simp
  rw[e];exact A0 [] Y Y Y (A3l _)
theorem Aco (f:Nat):A3z 225 [.t (.slice .any 3 []),.t (.func (.func f) [] [])] [] (.t (.slice .any 3 [])) []:=by
 refine yF Tryz.func225 ?_
 repeat'(first|exact Au|refine yC ?_ ?_|refine⟨λh=>?_⟩|refine DH Ai (l:=0) (cc:=0) Y Y Y Y Y Y Y Y Y Y Y Aa Aa ?_|fail)
 ·exact Ah Y Ay
 refine B6 1 ?_;refine BH ?_
 repeat'(first|exact Au|refine yC ?_ ?_|refine⟨λh=>?_⟩|fail)
 all_goals first
  |(exfalso;simp_all;done)
  |exact Ah Y (A3m Y)
  |(refine Ah Y (A3m ?_);simp[BG];done)
theorem Ah2 (l:List Seen) (f:Nat) (hf: ∀r∈l,A3z f [.agg (Af (AR r))] [] (.agg (Af (AR r))) []) (hl:l.length<=1000000):A3z 225 [.t (.slice .any 3 (l.map AR)),.t (.func (.func f) [] [])] [] (.t (.slice .any 3 (l.map AR))) []:=by
 by_cases h:l=[]
 ·subst h;exact Aco f
 ·refine A3p (b:=24) ?_;rw[Ts];exact Acn l f hf h hl
theorem Ah3 (l:List Seen) (hl:l.length<=1000000):A3z 177 [.t (.slice .any 3 (l.map AR))] [] (.t (.slice .any 3 (l.map AR))) []:=by
 have c:=Ah2 l _ (λr _=>Ah4 r) hl;refine yF Tryz.func177 ?_
 repeat'(first|exact Au|refine yC ?_ ?_|refine⟨λh=>?_⟩|fail)
 exact Ah Y (A3m Y)
theorem Acv (r:Pend):A3z 181 [.agg (Af (A3 r))] [] (.agg (Af (A3 r))) []:=by
 refine yF Tryz.func181 ?_
 repeat'(first|exact Au|refine yC ?_ ?_|refine⟨λh=>?_⟩|fail)
 exact Ah Y (A3m Y)
theorem Z1 (l:List Pend) (f:Nat) (hf: ∀r∈l,A3z f [.agg (Af (A3 r))] [] (.agg (Af (A3 r))) []) (aE:l≠[]) (hl:l.length<=1000000):A3z 180 [.t (.slice .any 3 (l.map A3)),.t (.func (.func f) [] [])] [] (.row 24 3 0 l.length) [(24,.grow 3 (l.map A3))]:=by
 have aQ:(l.map A3).length=l.length:=Ts ..;have dH:0<l.length:=A54.2 aE;have dQ:(((l.map A3).length:Nat):Int)=(l.length:Int):=by rw[aQ]
 have hz:l.length*(24+1)<=140737488355328:=Aa;refine yG Tryz.func180 ?_
 repeat'(first|exact Au|refine yB ?_ ?_|refine⟨λh=>?_⟩|refine DH Ai Y Y Y Y Y Y Y dQ dQ Y Y (WW _) hz ?_|fail)
 ·exfalso;simp_all
 refine AW (ι:=Nat) (λi=>i<=l.length) (λi=>[(1,.t (.func (.func f) [] [])),(5,.row 24 3 0 l.length),(13,.t (.slice .any 3 (l.map A3))),(14,.t (.int .i64 ((l.map A3).length:Int))),(15,.t (.int .i64 i))]) (λi=>[(24,.grow 3 ((l.map A3).take i++List.replicate ((l.map A3).length-i) [.int .i64 0,.int .i64 0,.int .i64 0]))]) (λi=>l.length-i) 0 Ac ?_ ?_
 ·exact Bb [] Aa6 (by simp;rfl)
 rintro i hi;by_cases aC:i<l.length
 ·have hr:l[i]?=some l[i]:=Kv aC;have hc:=hf l[i] (Agz aC);generalize l[i]=r at hr hc;have hg:((l.map A3).take i++List.replicate ((l.map A3).length-i) [.int .i64 0,.int .i64 0,.int .i64 0])[0+i]?=some [.int .i64 0,.int .i64 0,.int .i64 0]:=by rw[Atj];exact Hm (by rw[aQ];exact aC)
  repeat'(first|exact Au|refine yC ?_ ?_|refine⟨λh=>?_⟩|refine BZ hc ?_|refine Cb Ai (kc:=i) Y Y Y Y Y Y Y Y aC Y ?_|refine E9 Ai (ts:=A3 r) Y Y Y Y Y Y Y Y Y Y hg Y Y ?_|fail)
  refine AM (i+1) aC Aa [7] (Ag Y Y (Ag Y Y (Ag Y Y (Ag Y Y (Ag Y (by rw[A1 Aa Aa];rfl) A8))))) ?_;have cA:F3 [.int .i64 0,.int .i64 0,.int .i64 0] 0 (A3 r)=A3 r:=rfl;rw[<-GZ (C8 hr)];simp only[Atj];rw[cA];rfl
 ·repeat'(first|exact Au|refine yC ?_ ?_|refine⟨λh=>?_⟩|fail)
  have e:(l.map A3).take i++List.replicate ((l.map A3).length-i) [.int .i64 0,.int .i64 0,.int .i64 0]=l.map A3:=by
   rw[QQ Aa,show(l.map A3).length-i=0 from Aa];simp
  rw[e];exact A0 [] Y Y Y (A3l _)
theorem Z2 (f:Nat):A3z 180 [.t (.slice .any 3 []),.t (.func (.func f) [] [])] [] (.t (.slice .any 3 [])) []:=by
 refine yF Tryz.func180 ?_
 repeat'(first|exact Au|refine yC ?_ ?_|refine⟨λh=>?_⟩|refine DH Ai (l:=0) (cc:=0) Y Y Y Y Y Y Y Y Y Y Y Aa Aa ?_|fail)
 ·exact Ah Y Ay
 refine B6 1 ?_;refine BH ?_
 repeat'(first|exact Au|refine yC ?_ ?_|refine⟨λh=>?_⟩|fail)
 all_goals first
  |(exfalso;simp_all;done)
  |exact Ah Y (A3m Y)
  |(refine Ah Y (A3m ?_);simp[BG];done)
theorem Acs (l:List Pend) (f:Nat) (hf: ∀r∈l,A3z f [.agg (Af (A3 r))] [] (.agg (Af (A3 r))) []) (hl:l.length<=1000000):A3z 180 [.t (.slice .any 3 (l.map A3)),.t (.func (.func f) [] [])] [] (.t (.slice .any 3 (l.map A3))) []:=by
 by_cases h:l=[]
 ·subst h;exact Z2 f
 ·refine A3p (b:=24) ?_;rw[Ts];exact Z1 l f hf h hl
theorem Acu (l:List Pend) (hl:l.length<=1000000):A3z 117 [.t (.slice .any 3 (l.map A3))] [] (.t (.slice .any 3 (l.map A3))) []:=by
 have c:=Acs l _ (λr _=>Acv r) hl;refine yF Tryz.func117 ?_
 repeat'(first|exact Au|refine yC ?_ ?_|refine⟨λh=>?_⟩|fail)
 exact Ah Y (A3m Y)
theorem Aie (r:Int):A3z 179 [.t (.int .i64 r)] [] (.t (.int .i64 r)) []:=by
 refine yF Tryz.func179 ?_
 repeat'(first|exact Au|refine yC ?_ ?_|refine⟨λh=>?_⟩|fail)
 exact Ah Y (A3m Y)
theorem Acy (l:List Int) (f:Nat) (hf: ∀r∈l,A3z f [.t (.int .i64 r)] [] (.t (.int .i64 r)) []) (aE:l≠[]) (hl:l.length<=1000000):A3z 178 [.t (.slice .any 1 (l.map Cy)),.t (.func (.func f) [] [])] [] (.row 24 1 0 l.length) [(24,.grow 1 (l.map Cy))]:=by
 have aQ:(l.map Cy).length=l.length:=Ts ..;have dH:0<l.length:=A54.2 aE;have dQ:(((l.map Cy).length:Nat):Int)=(l.length:Int):=by rw[aQ]
 have hz:l.length*(8+1)<=140737488355328:=Aa;refine yG Tryz.func178 ?_
 repeat'(first|exact Au|refine yB ?_ ?_|refine⟨λh=>?_⟩|refine DH Ai Y Y Y Y Y Y Y dQ dQ Y Y (WW _) hz ?_|fail)
 ·exfalso;simp_all
 refine AW (ι:=Nat) (λi=>i<=l.length) (λi=>[(1,.t (.func (.func f) [] [])),(5,.row 24 1 0 l.length),(13,.t (.slice .any 1 (l.map Cy))),(14,.t (.int .i64 ((l.map Cy).length:Int))),(15,.t (.int .i64 i))]) (λi=>[(24,.grow 1 ((l.map Cy).take i++List.replicate ((l.map Cy).length-i) [.int .i64 0]))]) (λi=>l.length-i) 0 Ac ?_ ?_
 ·exact Bb [] Aa6 (by simp;rfl)
 rintro i hi;by_cases aC:i<l.length
 ·have hr:l[i]?=some l[i]:=Kv aC;have hc:=hf l[i] (Agz aC);generalize l[i]=r at hr hc;have hg:((l.map Cy).take i++List.replicate ((l.map Cy).length-i) [.int .i64 0])[0+i]?=some [.int .i64 0]:=by rw[Atj];exact Hm (by rw[aQ];exact aC)
  repeat'(first|exact Au|refine yC ?_ ?_|refine⟨λh=>?_⟩|refine BZ hc ?_|refine Cb Ai (kc:=i) Y Y Y Y Y Y Y Y aC Y ?_|refine E9 Ai (ts:=Cy r) Y Y Y Y Y Y Y Y Y Y hg Y Y ?_|fail)
  refine AM (i+1) aC Aa [7] (Ag Y Y (Ag Y Y (Ag Y Y (Ag Y Y (Ag Y (by rw[A1 Aa Aa];rfl) A8))))) ?_;have cA:F3 [.int .i64 0] 0 (Cy r)=Cy r:=rfl;rw[<-GZ (C8 hr)];simp only[Atj];rw[cA];rfl
 ·repeat'(first|exact Au|refine yC ?_ ?_|refine⟨λh=>?_⟩|fail)
  have e:(l.map Cy).take i++List.replicate ((l.map Cy).length-i) [.int .i64 0]=l.map Cy:=by
   rw[QQ Aa,show(l.map Cy).length-i=0 from Aa];simp
  rw[e];exact A0 [] Y Y Y (A3l _)
theorem Acz (f:Nat):A3z 178 [.t (.slice .any 1 []),.t (.func (.func f) [] [])] [] (.t (.slice .any 1 [])) []:=by
 refine yF Tryz.func178 ?_
 repeat'(first|exact Au|refine yC ?_ ?_|refine⟨λh=>?_⟩|refine DH Ai (l:=0) (cc:=0) Y Y Y Y Y Y Y Y Y Y Y Aa Aa ?_|fail)
 ·exact Ah Y Ay
 refine B6 1 ?_;refine BH ?_
 repeat'(first|exact Au|refine yC ?_ ?_|refine⟨λh=>?_⟩|fail)
 all_goals first
  |(exfalso;simp_all;done)
  |exact Ah Y (A3m Y)
  |(refine Ah Y (A3m ?_);simp[BG];done)
theorem Aic (l:List Int) (f:Nat) (hf: ∀r∈l,A3z f [.t (.int .i64 r)] [] (.t (.int .i64 r)) []) (hl:l.length<=1000000):A3z 178 [.t (.slice .any 1 (l.map Cy)),.t (.func (.func f) [] [])] [] (.t (.slice .any 1 (l.map Cy))) []:=by
 by_cases h:l=[]
 ·subst h;exact Acz f
 ·refine A3p (b:=24) ?_;rw[Ts];exact Acy l f hf h hl
theorem Aid (l:List Int) (hl:l.length<=1000000):A3z 116 [.t (.slice .any 1 (l.map Cy))] [] (.t (.slice .any 1 (l.map Cy))) []:=by
 have c:=Aic l _ (λr _=>Aie r) hl;refine yF Tryz.func116 ?_
 repeat'(first|exact Au|refine yC ?_ ?_|refine⟨λh=>?_⟩|fail)
 exact Ah Y (A3m Y)
theorem WA (l:List Batch) (f:Nat) (hf: ∀r∈l,A3z f [.agg (Af (Ak r))] [] (.agg (Af (Ak r))) []) (aE:l≠[]) (hl:l.length<=1000000):A3z 176 [.t (.slice .any 5 (l.map Ak)),.t (.func (.func f) [] [])] [] (.row 24 5 0 l.length) [(24,.grow 5 (l.map Ak))]:=by
 have aQ:(l.map Ak).length=l.length:=Ts ..;have dH:0<l.length:=A54.2 aE;have dQ:(((l.map Ak).length:Nat):Int)=(l.length:Int):=by rw[aQ]
 have hz:l.length*(56+1)<=140737488355328:=Aa;refine yG Tryz.func176 ?_
 repeat'(first|exact Au|refine yB ?_ ?_|refine⟨λh=>?_⟩|refine DH Ai Y Y Y Y Y Y Y dQ dQ Y Y (WW _) hz ?_|fail)
 ·exfalso;simp_all
 refine AW (ι:=Nat) (λi=>i<=l.length) (λi=>[(1,.t (.func (.func f) [] [])),(5,.row 24 5 0 l.length),(13,.t (.slice .any 5 (l.map Ak))),(14,.t (.int .i64 ((l.map Ak).length:Int))),(15,.t (.int .i64 i))]) (λi=>[(24,.grow 5 ((l.map Ak).take i++List.replicate ((l.map Ak).length-i) [.int .i64 0,.int .i64 0,.int .i64 0,.bool false,.slice .nil 0 []]))]) (λi=>l.length-i) 0 Ac ?_ ?_
 ·exact Bb [] Aa6 (by simp;rfl)
 rintro i hi;by_cases aC:i<l.length
 ·have hr:l[i]?=some l[i]:=Kv aC;have hc:=hf l[i] (Agz aC);generalize l[i]=r at hr hc;have hg:((l.map Ak).take i++List.replicate ((l.map Ak).length-i) [.int .i64 0,.int .i64 0,.int .i64 0,.bool false,.slice .nil 0 []])[0+i]?=some [.int .i64 0,.int .i64 0,.int .i64 0,.bool false,.slice .nil 0 []]:=by rw[Atj];exact Hm (by rw[aQ];exact aC)
  repeat'(first|exact Au|refine yC ?_ ?_|refine⟨λh=>?_⟩|refine BZ hc ?_|refine Cb Ai (kc:=i) Y Y Y Y Y Y Y Y aC Y ?_|refine E9 Ai (ts:=Ak r) Y Y Y Y Y Y Y Y Y Y hg Y Y ?_|fail)
  refine AM (i+1) aC Aa [7] (Ag Y Y (Ag Y Y (Ag Y Y (Ag Y Y (Ag Y (by rw[A1 Aa Aa];rfl) A8))))) ?_;have cA:F3 [.int .i64 0,.int .i64 0,.int .i64 0,.bool false,.slice .nil 0 []] 0 (Ak r)=Ak r:=rfl;rw[<-GZ (C8 hr)];simp only[Atj];rw[cA];rfl
 ·repeat'(first|exact Au|refine yC ?_ ?_|refine⟨λh=>?_⟩|fail)
  have e:(l.map Ak).take i++List.replicate ((l.map Ak).length-i) [.int .i64 0,.int .i64 0,.int .i64 0,.bool false,.slice .nil 0 []]=l.map Ak:=by
   rw[QQ Aa,show(l.map Ak).length-i=0 from Aa];simp
  rw[e];exact A0 [] Y Y Y (A3l _)
theorem WB (f:Nat):A3z 176 [.t (.slice .any 5 []),.t (.func (.func f) [] [])] [] (.t (.slice .any 5 [])) []:=by
 refine yF Tryz.func176 ?_
 repeat'(first|exact Au|refine yC ?_ ?_|refine⟨λh=>?_⟩|refine DH Ai (l:=0) (cc:=0) Y Y Y Y Y Y Y Y Y Y Y Aa Aa ?_|fail)
 ·exact Ah Y Ay
 refine B6 1 ?_;refine BH ?_
 repeat'(first|exact Au|refine yC ?_ ?_|refine⟨λh=>?_⟩|fail)
 all_goals first
  |(exfalso;simp_all;done)
  |exact Ah Y (A3m Y)
  |(refine Ah Y (A3m ?_);simp[BG];done)
theorem Z4 (l:List Batch) (f:Nat) (hf: ∀r∈l,A3z f [.agg (Af (Ak r))] [] (.agg (Af (Ak r))) []) (hl:l.length<=1000000):A3z 176 [.t (.slice .any 5 (l.map Ak)),.t (.func (.func f) [] [])] [] (.t (.slice .any 5 (l.map Ak))) []:=by
 by_cases h:l=[]
 ·subst h;exact WB f
 ·refine A3p (b:=24) ?_;rw[Ts];exact WA l f hf h hl
theorem Acw (l:List Opn) (f:Nat) (hf: ∀r∈l,A3z f [.agg (Af (An r))] [] (.agg (Af (An r))) []) (aE:l≠[]) (hl:l.length<=1000000):A3z 112 [.t (.slice .any 3 (l.map An)),.t (.func (.func f) [] [])] [] (.row 24 3 0 l.length) [(24,.grow 3 (l.map An))]:=by
 have aQ:(l.map An).length=l.length:=Ts ..;have dH:0<l.length:=A54.2 aE;have dQ:(((l.map An).length:Nat):Int)=(l.length:Int):=by rw[aQ]
 have hz:l.length*(40+1)<=140737488355328:=Aa;refine yG Tryz.func112 ?_
 repeat'(first|exact Au|refine yB ?_ ?_|refine⟨λh=>?_⟩|refine DH Ai Y Y Y Y Y Y Y dQ dQ Y Y (WW _) hz ?_|fail)
 ·exfalso;simp_all
 refine AW (ι:=Nat) (λi=>i<=l.length) (λi=>[(1,.t (.func (.func f) [] [])),(5,.row 24 3 0 l.length),(13,.t (.slice .any 3 (l.map An))),(14,.t (.int .i64 ((l.map An).length:Int))),(15,.t (.int .i64 i))]) (λi=>[(24,.grow 3 ((l.map An).take i++List.replicate ((l.map An).length-i) [.int .i64 0,.int .i64 0,.slice .nil 0 []]))]) (λi=>l.length-i) 0 Ac ?_ ?_
 ·exact Bb [] Aa6 (by simp;rfl)
 rintro i hi;by_cases aC:i<l.length
 ·have hr:l[i]?=some l[i]:=Kv aC;have hc:=hf l[i] (Agz aC);generalize l[i]=r at hr hc;have hg:((l.map An).take i++List.replicate ((l.map An).length-i) [.int .i64 0,.int .i64 0,.slice .nil 0 []])[0+i]?=some [.int .i64 0,.int .i64 0,.slice .nil 0 []]:=by rw[Atj];exact Hm (by rw[aQ];exact aC)
  repeat'(first|exact Au|refine yC ?_ ?_|refine⟨λh=>?_⟩|refine BZ hc ?_|refine Cb Ai (kc:=i) Y Y Y Y Y Y Y Y aC Y ?_|refine E9 Ai (ts:=An r) Y Y Y Y Y Y Y Y Y Y hg Y Y ?_|fail)
  refine AM (i+1) aC Aa [7] (Ag Y Y (Ag Y Y (Ag Y Y (Ag Y Y (Ag Y (by rw[A1 Aa Aa];rfl) A8))))) ?_;have cA:F3 [.int .i64 0,.int .i64 0,.slice .nil 0 []] 0 (An r)=An r:=rfl;rw[<-GZ (C8 hr)];simp only[Atj];rw[cA];rfl
 ·repeat'(first|exact Au|refine yC ?_ ?_|refine⟨λh=>?_⟩|fail)
  have e:(l.map An).take i++List.replicate ((l.map An).length-i) [.int .i64 0,.int .i64 0,.slice .nil 0 []]=l.map An:=by
   rw[QQ Aa,show(l.map An).length-i=0 from Aa];simp
  rw[e];exact A0 [] Y Y Y (A3l _)
theorem Acx (f:Nat):A3z 112 [.t (.slice .any 3 []),.t (.func (.func f) [] [])] [] (.t (.slice .any 3 [])) []:=by
 refine yF Tryz.func112 ?_
 repeat'(first|exact Au|refine yC ?_ ?_|refine⟨λh=>?_⟩|refine DH Ai (l:=0) (cc:=0) Y Y Y Y Y Y Y Y Y Y Y Aa Aa ?_|fail)
 ·exact Ah Y Ay
 refine B6 1 ?_;refine BH ?_
 repeat'(first|exact Au|refine yC ?_ ?_|refine⟨λh=>?_⟩|fail)
 all_goals first
  |(exfalso;simp_all;done)
  |exact Ah Y (A3m Y)
  |(refine Ah Y (A3m ?_);simp[BG];done)
theorem Aia (l:List Opn) (f:Nat) (hf: ∀r∈l,A3z f [.agg (Af (An r))] [] (.agg (Af (An r))) []) (hl:l.length<=1000000):A3z 112 [.t (.slice .any 3 (l.map An)),.t (.func (.func f) [] [])] [] (.t (.slice .any 3 (l.map An))) []:=by
 by_cases h:l=[]
 ·subst h;exact Acx f
 ·refine A3p (b:=24) ?_;rw[Ts];exact Acw l f hf h hl
theorem Zz (l:List Prod) (f:Nat) (hf: ∀r∈l,A3z f [.agg (Af (Ar r))] [] (.agg (Af (Ar r))) []) (aE:l≠[]) (hl:l.length<=1000000):A3z 114 [.t (.slice .any 4 (l.map Ar)),.t (.func (.func f) [] [])] [] (.row 24 4 0 l.length) [(24,.grow 4 (l.map Ar))]:=by
 have aQ:(l.map Ar).length=l.length:=Ts ..;have dH:0<l.length:=A54.2 aE;have dQ:(((l.map Ar).length:Nat):Int)=(l.length:Int):=by rw[aQ]
 have hz:l.length*(48+1)<=140737488355328:=Aa;refine yG Tryz.func114 ?_
 repeat'(first|exact Au|refine yB ?_ ?_|refine⟨λh=>?_⟩|refine DH Ai Y Y Y Y Y Y Y dQ dQ Y Y (WW _) hz ?_|fail)
 ·exfalso;simp_all
 refine AW (ι:=Nat) (λi=>i<=l.length) (λi=>[(1,.t (.func (.func f) [] [])),(5,.row 24 4 0 l.length),(13,.t (.slice .any 4 (l.map Ar))),(14,.t (.int .i64 ((l.map Ar).length:Int))),(15,.t (.int .i64 i))]) (λi=>[(24,.grow 4 ((l.map Ar).take i++List.replicate ((l.map Ar).length-i) [.int .i64 0,.int .i64 0,.int .i64 0,.slice .nil 0 []]))]) (λi=>l.length-i) 0 Ac ?_ ?_
 ·exact Bb [] Aa6 (by simp;rfl)
 rintro i hi;by_cases aC:i<l.length
 ·have hr:l[i]?=some l[i]:=Kv aC;have hc:=hf l[i] (Agz aC);generalize l[i]=r at hr hc;have hg:((l.map Ar).take i++List.replicate ((l.map Ar).length-i) [.int .i64 0,.int .i64 0,.int .i64 0,.slice .nil 0 []])[0+i]?=some [.int .i64 0,.int .i64 0,.int .i64 0,.slice .nil 0 []]:=by rw[Atj];exact Hm (by rw[aQ];exact aC)
  repeat'(first|exact Au|refine yC ?_ ?_|refine⟨λh=>?_⟩|refine BZ hc ?_|refine Cb Ai (kc:=i) Y Y Y Y Y Y Y Y aC Y ?_|refine E9 Ai (ts:=Ar r) Y Y Y Y Y Y Y Y Y Y hg Y Y ?_|fail)
  refine AM (i+1) aC Aa [7] (Ag Y Y (Ag Y Y (Ag Y Y (Ag Y Y (Ag Y (by rw[A1 Aa Aa];rfl) A8))))) ?_;have cA:F3 [.int .i64 0,.int .i64 0,.int .i64 0,.slice .nil 0 []] 0 (Ar r)=Ar r:=rfl;rw[<-GZ (C8 hr)];simp only[Atj];rw[cA];rfl
 ·repeat'(first|exact Au|refine yC ?_ ?_|refine⟨λh=>?_⟩|fail)
  have e:(l.map Ar).take i++List.replicate ((l.map Ar).length-i) [.int .i64 0,.int .i64 0,.int .i64 0,.slice .nil 0 []]=l.map Ar:=by
   rw[QQ Aa,show(l.map Ar).length-i=0 from Aa];simp
  rw[e];exact A0 [] Y Y Y (A3l _)
theorem Z0 (f:Nat):A3z 114 [.t (.slice .any 4 []),.t (.func (.func f) [] [])] [] (.t (.slice .any 4 [])) []:=by
 refine yF Tryz.func114 ?_
 repeat'(first|exact Au|refine yC ?_ ?_|refine⟨λh=>?_⟩|refine DH Ai (l:=0) (cc:=0) Y Y Y Y Y Y Y Y Y Y Y Aa Aa ?_|fail)
 ·exact Ah Y Ay
 refine B6 1 ?_;refine BH ?_
 repeat'(first|exact Au|refine yC ?_ ?_|refine⟨λh=>?_⟩|fail)
 all_goals first
  |(exfalso;simp_all;done)
  |exact Ah Y (A3m Y)
  |(refine Ah Y (A3m ?_);simp[BG];done)
theorem Acr (l:List Prod) (f:Nat) (hf: ∀r∈l,A3z f [.agg (Af (Ar r))] [] (.agg (Af (Ar r))) []) (hl:l.length<=1000000):A3z 114 [.t (.slice .any 4 (l.map Ar)),.t (.func (.func f) [] [])] [] (.t (.slice .any 4 (l.map Ar))) []:=by
 by_cases h:l=[]
 ·subst h;exact Z0 f
 ·refine A3p (b:=24) ?_;rw[Ts];exact Zz l f hf h hl
theorem Amc (o:Opn) (hs:Iw o):A3z 113 [.agg (Af (An o))] [] (.agg (Af (An o))) []:=by
 have c:=Z4 o.gG 47 (λb hb=>UV b (hs.2 b hb)) hs.1;refine yF Tryz.func113 ?_
 repeat'(first|exact Au|refine yC ?_ ?_|refine⟨λh=>?_⟩|fail)
 exact Ah Y (A3m Y)
theorem Ama (p:Prod) (hs:p.s9.length<=1000000):A3z 115 [.agg (Af (Ar p))] [] (.agg (Af (Ar p))) []:=by
 have c:=Ah3 p.s9 hs;refine yF Tryz.func115 ?_
 repeat'(first|exact Au|refine yC ?_ ?_|refine⟨λh=>?_⟩|fail)
 exact Ah Y (A3m Y)
theorem SB (p:Part) (hs:AU p):A3z 75 [.agg (Af (Ax p))] [] (.agg (Af (Ax p))) []:=by
 have c1:=Aof p.rows hs.1;have c2:=Aia p.kI 113 (λo ho=>Amc o (hs.2.2.1 o ho)) hs.2.1;have c3:=Acr p.rA 115 (λx hx=>Ama x (hs.2.2.2.2 x hx)) hs.2.2.2.1;refine yF Tryz.func75 ?_
 repeat'(first|exact Au|refine yC ?_ ?_|refine⟨λh=>?_⟩|fail)
 exact Ah Y (A3m Y)
def YR (i:Image):List T:=Ax i.p0++(Ax i.p1++Ax i.p2)
theorem Ag7 (i:Image) (hs:SmallI i):A3z 45 [.agg (Af (YR i))] [] (.agg (Af (YR i))) []:=by
 have c0:=SB i.p0 hs.p0;have c1:=SB i.p1 hs.p1;have c2:=SB i.p2 hs.p2;have dO:IntKind.i64.wrap (0+1)=1:=by decide+kernel
 have dD:IntKind.i64.wrap (1+1)=2:=by decide+kernel
 have dZ:IntKind.i64.wrap (2+1)=3:=by decide+kernel
 refine yF Tryz.func45 ?_
 repeat'(first|exact Au|refine yC ?_ ?_|refine⟨λh=>?_⟩|refine B6 5 ?_|refine BH ?_|rw[dO]|rw[dD]|rw[dZ]|fail)
 exact Ah Y (A3m Y)
theorem Pu (c:Coord) (hs:SmallC c):A3z 76 [.agg (Af (AN c))] [] (.agg (Af (AN c))) []:=by
 have c1:=Aid c.parts hs.parts;have c2:=Acu c.rH hs.rH;refine yF Tryz.func76 ?_
 repeat'(first|exact Au|refine yC ?_ ?_|refine⟨λh=>?_⟩|fail)
 exact Ah Y (A3m Y)
theorem UQ (s:MState) (h0:SmallC s.t0) (h1:SmallC s.t1) (h2:SmallC s.t2):A3z 46 [.agg (Af (Az s))] [] (.agg (Af (Az s))) []:=by
 have c0:=Pu s.t0 h0;have c1:=Pu s.t1 h1;have c2:=Pu s.t2 h2;have dO:IntKind.i64.wrap (0+1)=1:=by decide+kernel
 have dD:IntKind.i64.wrap (1+1)=2:=by decide+kernel
 have dZ:IntKind.i64.wrap (2+1)=3:=by decide+kernel
 refine yF Tryz.func46 ?_
 repeat'(first|exact Au|refine yC ?_ ?_|refine⟨λh=>?_⟩|refine B6 5 ?_|refine BH ?_|rw[dO]|rw[dD]|rw[dZ]|fail)
 exact Ah Y (A3m Y)
theorem Pt (i:Image) (hs:SmallI i):A3z 29 [.agg (Af (Ao i))] [] (.agg (Af (Ao i))) []:=by
 have c0:=Ag7 i hs;have c1:=UQ i.m hs.t0 hs.t1 hs.t2;refine yF Tryz.func29 ?_
 repeat'(first|exact Au|refine yC ?_ ?_|refine⟨λh=>?_⟩|fail)
 exact Ah Y (A3m Y)
