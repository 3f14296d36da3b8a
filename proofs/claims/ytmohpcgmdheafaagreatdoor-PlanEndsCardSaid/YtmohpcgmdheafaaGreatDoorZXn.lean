/- Contracts of the program: copies of parts, of states, of images. -/
import Derived.Test.YtmohpcgmdheafaaGreatDoorZK15
set_option linter.unusedVariables false
set_option linter.unusedSimpArgs false
set_option maxRecDepth 100000
set_option maxHeartbeats 8000000
namespace Go.Proofs.YtmohpcgmdheafaaGreatDoor
open Go.Am
attribute [local irreducible] Decidable.decide Tr A2 hSK hSW
theorem Ae8 (r:Seen):A17 291 [.agg (Ah (AM r))] [] (.agg (Ah (AM r))) []:=by
 refine ct0 Ag Tryz.func291 Y false Y Y ?_
 repeat'(first|exact prB|refine stC ?_|refine stU (fun h=>?_) fun h=>?_|refine stN (fun b hb=>?_)|fail)
 exact Ai Y (A1y Y)
theorem ZQ (l:List Seen) (f:Nat) (hf: ∀r∈l,A17 f [.agg (Ah (AM r))] [] (.agg (Ah (AM r))) []) (hne:l≠[]) (hl:l.length<=1000000):A17 290 [.t (.slice .any 3 (l.map AM)),.t (.func (.func f) [] [])] [] (.row 24 3 0 l.length) [(24,.grow 3 (l.map AM))]:=by
 have hlm:(l.map AM).length=l.length:=List.length_map ..
 have hpos:0<l.length:=List.length_pos_iff.2 hne
 have hcn:(((l.map AM).length:Nat):Int)=(l.length:Int):=by rw[hlm]
 have hz:l.length*(24+1)<=140737488355328:=by omega
 refine ct1 Ag Tryz.func290 Y Y ?_
 repeat'(first|exact prB|refine stB ?_|refine stU (fun h=>?_) fun h=>?_|refine stN (fun b hb=>?_)|refine Dn Ag Y Y Y Y Y Y Y hcn hcn Y Y (Nat.le_refl _) hz ?_|fail)
 ·exfalso;simp_all
 refine A3 (ι:=Nat) (fun i=>i<=l.length) (fun i=>[(1,.t (.func (.func f) [] [])),(5,.row 24 3 0 l.length),(13,.t (.slice .any 3 (l.map AM))),(14,.t (.int .i64 ((l.map AM).length:Int))),(15,.t (.int .i64 i))]) (fun i=>[(24,.grow 3 ((l.map AM).take i++List.replicate ((l.map AM).length-i) [.int .i64 0,.int .i64 0,.int .i64 0]))]) (fun i=>l.length-i) 0 Ac ?_ ?_
 ·exact AE [] (Af Y Y (Af Y Y (Af Y Y (Af Y Y (Af Y Y Aj))))) (by simp;rfl)
 rintro i hi
 by_cases hlt:i<l.length
 ·have hr:l[i]?=some l[i]:=List.getElem?_eq_getElem hlt
  have hc:=hf l[i] (List.getElem_mem hlt)
  generalize l[i]=r at hr hc
  have hg:((l.map AM).take i++List.replicate ((l.map AM).length-i) [.int .i64 0,.int .i64 0,.int .i64 0])[0+i]?=some [.int .i64 0,.int .i64 0,.int .i64 0]:=by rw[Nat.zero_add];exact Gd (by rw[hlm];exact hlt)
  repeat'(first|exact prB|refine stC ?_|refine stU (fun h=>?_) fun h=>?_|refine stN (fun b hb=>?_)|refine stL ?_ (c:=hc)|refine CH Ag (kc:=i) Y Y Y Y Y Y Y Y hlt Y ?_|refine FT Ag (ts:=AM r) Y Y Y Y Y Y Y Y Y Y hg Y Y ?_|fail)
  refine Ay (i+1) hlt Aa [7] (Af Y Y (Af Y Y (Af Y Y (Af Y Y (Af Y (by rw[An Aa Aa];rfl) Aj))))) ?_
  have hsr:EL [.int .i64 0,.int .i64 0,.int .i64 0] 0 (AM r)=AM r:=rfl
  rw[<-FV (CL hr)];simp only[Nat.zero_add];rw[hsr];rfl
 ·repeat'(first|exact prB|refine stC ?_|refine stU (fun h=>?_) fun h=>?_|refine stN (fun b hb=>?_)|fail)
  have e:(l.map AM).take i++List.replicate ((l.map AM).length-i) [.int .i64 0,.int .i64 0,.int .i64 0]=l.map AM:=by
   rw[List.take_of_length_le Aa,show(l.map AM).length-i=0 by omega];simp
  rw[e]
  exact Ba [] Y Y Y (A1x _)
theorem ZR (f:Nat):A17 290 [.t (.slice .any 3 []),.t (.func (.func f) [] [])] [] (.t (.slice .any 3 [])) []:=by
 refine ct0 Ag Tryz.func290 Y false Y Y ?_
 repeat'(first|exact prB|refine stC ?_|refine stU (fun h=>?_) fun h=>?_|refine stN (fun b hb=>?_)|refine Dn Ag (l:=0) (cc:=0) Y Y Y Y Y Y Y Y Y Y Y Aa Aa ?_|fail)
 ·exact Ai Y Ak
 refine AN 1 ?_
 refine AQ ?_
 repeat'(first|exact prB|refine stC ?_|refine stU (fun h=>?_) fun h=>?_|refine stN (fun b hb=>?_)|fail)
 all_goals first
  |(exfalso;simp_all;done)
  |exact Ai Y (A1y Y)
  |(refine Ai Y (A1y ?_);simp[B5];done)
theorem Ae6 (l:List Seen) (f:Nat) (hf: ∀r∈l,A17 f [.agg (Ah (AM r))] [] (.agg (Ah (AM r))) []) (hl:l.length<=1000000):A17 290 [.t (.slice .any 3 (l.map AM)),.t (.func (.func f) [] [])] [] (.t (.slice .any 3 (l.map AM))) []:=by
 by_cases h:l=[]
 ·subst h;exact ZR f
 ·refine A11 (b:=24) ?_
  rw[List.length_map]
  exact ZQ l f hf h hl
theorem Ae7 (l:List Seen) (hl:l.length<=1000000):A17 217 [.t (.slice .any 3 (l.map AM))] [] (.t (.slice .any 3 (l.map AM))) []:=by
 have c:=Ae6 l _ (fun r _=>Ae8 r) hl
 refine ct0 Ag Tryz.func217 Y false Y Y ?_
 repeat'(first|exact prB|refine stC ?_|refine stU (fun h=>?_) fun h=>?_|refine stN (fun b hb=>?_)|refine stL ?_ (c:=c)|fail)
 exact Ai Y (A1y Y)
theorem ZW (r:Pend):A17 221 [.agg (Ah (AB r))] [] (.agg (Ah (AB r))) []:=by
 refine ct0 Ag Tryz.func221 Y false Y Y ?_
 repeat'(first|exact prB|refine stC ?_|refine stU (fun h=>?_) fun h=>?_|refine stN (fun b hb=>?_)|fail)
 exact Ai Y (A1y Y)
theorem Yg (l:List Pend) (f:Nat) (hf: ∀r∈l,A17 f [.agg (Ah (AB r))] [] (.agg (Ah (AB r))) []) (hne:l≠[]) (hl:l.length<=1000000):A17 220 [.t (.slice .any 3 (l.map AB)),.t (.func (.func f) [] [])] [] (.row 24 3 0 l.length) [(24,.grow 3 (l.map AB))]:=by
 have hlm:(l.map AB).length=l.length:=List.length_map ..
 have hpos:0<l.length:=List.length_pos_iff.2 hne
 have hcn:(((l.map AB).length:Nat):Int)=(l.length:Int):=by rw[hlm]
 have hz:l.length*(24+1)<=140737488355328:=by omega
 refine ct1 Ag Tryz.func220 Y Y ?_
 repeat'(first|exact prB|refine stB ?_|refine stU (fun h=>?_) fun h=>?_|refine stN (fun b hb=>?_)|refine Dn Ag Y Y Y Y Y Y Y hcn hcn Y Y (Nat.le_refl _) hz ?_|fail)
 ·exfalso;simp_all
 refine A3 (ι:=Nat) (fun i=>i<=l.length) (fun i=>[(1,.t (.func (.func f) [] [])),(5,.row 24 3 0 l.length),(13,.t (.slice .any 3 (l.map AB))),(14,.t (.int .i64 ((l.map AB).length:Int))),(15,.t (.int .i64 i))]) (fun i=>[(24,.grow 3 ((l.map AB).take i++List.replicate ((l.map AB).length-i) [.int .i64 0,.int .i64 0,.int .i64 0]))]) (fun i=>l.length-i) 0 Ac ?_ ?_
 ·exact AE [] (Af Y Y (Af Y Y (Af Y Y (Af Y Y (Af Y Y Aj))))) (by simp;rfl)
 rintro i hi
 by_cases hlt:i<l.length
 ·have hr:l[i]?=some l[i]:=List.getElem?_eq_getElem hlt
  have hc:=hf l[i] (List.getElem_mem hlt)
  generalize l[i]=r at hr hc
  have hg:((l.map AB).take i++List.replicate ((l.map AB).length-i) [.int .i64 0,.int .i64 0,.int .i64 0])[0+i]?=some [.int .i64 0,.int .i64 0,.int .i64 0]:=by rw[Nat.zero_add];exact Gd (by rw[hlm];exact hlt)
  repeat'(first|exact prB|refine stC ?_|refine stU (fun h=>?_) fun h=>?_|refine stN (fun b hb=>?_)|refine stL ?_ (c:=hc)|refine CH Ag (kc:=i) Y Y Y Y Y Y Y Y hlt Y ?_|refine FT Ag (ts:=AB r) Y Y Y Y Y Y Y Y Y Y hg Y Y ?_|fail)
  refine Ay (i+1) hlt Aa [7] (Af Y Y (Af Y Y (Af Y Y (Af Y Y (Af Y (by rw[An Aa Aa];rfl) Aj))))) ?_
  have hsr:EL [.int .i64 0,.int .i64 0,.int .i64 0] 0 (AB r)=AB r:=rfl
  rw[<-FV (CL hr)];simp only[Nat.zero_add];rw[hsr];rfl
 ·repeat'(first|exact prB|refine stC ?_|refine stU (fun h=>?_) fun h=>?_|refine stN (fun b hb=>?_)|fail)
  have e:(l.map AB).take i++List.replicate ((l.map AB).length-i) [.int .i64 0,.int .i64 0,.int .i64 0]=l.map AB:=by
   rw[List.take_of_length_le Aa,show(l.map AB).length-i=0 by omega];simp
  rw[e]
  exact Ba [] Y Y Y (A1x _)
theorem Yh (f:Nat):A17 220 [.t (.slice .any 3 []),.t (.func (.func f) [] [])] [] (.t (.slice .any 3 [])) []:=by
 refine ct0 Ag Tryz.func220 Y false Y Y ?_
 repeat'(first|exact prB|refine stC ?_|refine stU (fun h=>?_) fun h=>?_|refine stN (fun b hb=>?_)|refine Dn Ag (l:=0) (cc:=0) Y Y Y Y Y Y Y Y Y Y Y Aa Aa ?_|fail)
 ·exact Ai Y Ak
 refine AN 1 ?_
 refine AQ ?_
 repeat'(first|exact prB|refine stC ?_|refine stU (fun h=>?_) fun h=>?_|refine stN (fun b hb=>?_)|fail)
 all_goals first
  |(exfalso;simp_all;done)
  |exact Ai Y (A1y Y)
  |(refine Ai Y (A1y ?_);simp[B5];done)
theorem ZU (l:List Pend) (f:Nat) (hf: ∀r∈l,A17 f [.agg (Ah (AB r))] [] (.agg (Ah (AB r))) []) (hl:l.length<=1000000):A17 220 [.t (.slice .any 3 (l.map AB)),.t (.func (.func f) [] [])] [] (.t (.slice .any 3 (l.map AB))) []:=by
 by_cases h:l=[]
 ·subst h;exact Yh f
 ·refine A11 (b:=24) ?_
  rw[List.length_map]
  exact Yg l f hf h hl
theorem ZV (l:List Pend) (hl:l.length<=1000000):A17 153 [.t (.slice .any 3 (l.map AB))] [] (.t (.slice .any 3 (l.map AB))) []:=by
 have c:=ZU l _ (fun r _=>ZW r) hl
 refine ct0 Ag Tryz.func153 Y false Y Y ?_
 repeat'(first|exact prB|refine stC ?_|refine stU (fun h=>?_) fun h=>?_|refine stN (fun b hb=>?_)|refine stL ?_ (c:=c)|fail)
 exact Ai Y (A1y Y)
theorem Afg (r:Int):A17 219 [.t (.int .i64 r)] [] (.t (.int .i64 r)) []:=by
 refine ct0 Ag Tryz.func219 Y false Y Y ?_
 repeat'(first|exact prB|refine stC ?_|refine stU (fun h=>?_) fun h=>?_|refine stN (fun b hb=>?_)|fail)
 exact Ai Y (A1y Y)
theorem ZZ (l:List Int) (f:Nat) (hf: ∀r∈l,A17 f [.t (.int .i64 r)] [] (.t (.int .i64 r)) []) (hne:l≠[]) (hl:l.length<=1000000):A17 218 [.t (.slice .any 1 (l.map Bz)),.t (.func (.func f) [] [])] [] (.row 24 1 0 l.length) [(24,.grow 1 (l.map Bz))]:=by
 have hlm:(l.map Bz).length=l.length:=List.length_map ..
 have hpos:0<l.length:=List.length_pos_iff.2 hne
 have hcn:(((l.map Bz).length:Nat):Int)=(l.length:Int):=by rw[hlm]
 have hz:l.length*(8+1)<=140737488355328:=by omega
 refine ct1 Ag Tryz.func218 Y Y ?_
 repeat'(first|exact prB|refine stB ?_|refine stU (fun h=>?_) fun h=>?_|refine stN (fun b hb=>?_)|refine Dn Ag Y Y Y Y Y Y Y hcn hcn Y Y (Nat.le_refl _) hz ?_|fail)
 ·exfalso;simp_all
 refine A3 (ι:=Nat) (fun i=>i<=l.length) (fun i=>[(1,.t (.func (.func f) [] [])),(5,.row 24 1 0 l.length),(13,.t (.slice .any 1 (l.map Bz))),(14,.t (.int .i64 ((l.map Bz).length:Int))),(15,.t (.int .i64 i))]) (fun i=>[(24,.grow 1 ((l.map Bz).take i++List.replicate ((l.map Bz).length-i) [.int .i64 0]))]) (fun i=>l.length-i) 0 Ac ?_ ?_
 ·exact AE [] (Af Y Y (Af Y Y (Af Y Y (Af Y Y (Af Y Y Aj))))) (by simp;rfl)
 rintro i hi
 by_cases hlt:i<l.length
 ·have hr:l[i]?=some l[i]:=List.getElem?_eq_getElem hlt
  have hc:=hf l[i] (List.getElem_mem hlt)
  generalize l[i]=r at hr hc
  have hg:((l.map Bz).take i++List.replicate ((l.map Bz).length-i) [.int .i64 0])[0+i]?=some [.int .i64 0]:=by rw[Nat.zero_add];exact Gd (by rw[hlm];exact hlt)
  repeat'(first|exact prB|refine stC ?_|refine stU (fun h=>?_) fun h=>?_|refine stN (fun b hb=>?_)|refine stL ?_ (c:=hc)|refine CH Ag (kc:=i) Y Y Y Y Y Y Y Y hlt Y ?_|refine FT Ag (ts:=Bz r) Y Y Y Y Y Y Y Y Y Y hg Y Y ?_|fail)
  refine Ay (i+1) hlt Aa [7] (Af Y Y (Af Y Y (Af Y Y (Af Y Y (Af Y (by rw[An Aa Aa];rfl) Aj))))) ?_
  have hsr:EL [.int .i64 0] 0 (Bz r)=Bz r:=rfl
  rw[<-FV (CL hr)];simp only[Nat.zero_add];rw[hsr];rfl
 ·repeat'(first|exact prB|refine stC ?_|refine stU (fun h=>?_) fun h=>?_|refine stN (fun b hb=>?_)|fail)
  have e:(l.map Bz).take i++List.replicate ((l.map Bz).length-i) [.int .i64 0]=l.map Bz:=by
   rw[List.take_of_length_le Aa,show(l.map Bz).length-i=0 by omega];simp
  rw[e]
  exact Ba [] Y Y Y (A1x _)
theorem Aaa (f:Nat):A17 218 [.t (.slice .any 1 []),.t (.func (.func f) [] [])] [] (.t (.slice .any 1 [])) []:=by
 refine ct0 Ag Tryz.func218 Y false Y Y ?_
 repeat'(first|exact prB|refine stC ?_|refine stU (fun h=>?_) fun h=>?_|refine stN (fun b hb=>?_)|refine Dn Ag (l:=0) (cc:=0) Y Y Y Y Y Y Y Y Y Y Y Aa Aa ?_|fail)
 ·exact Ai Y Ak
 refine AN 1 ?_
 refine AQ ?_
 repeat'(first|exact prB|refine stC ?_|refine stU (fun h=>?_) fun h=>?_|refine stN (fun b hb=>?_)|fail)
 all_goals first
  |(exfalso;simp_all;done)
  |exact Ai Y (A1y Y)
  |(refine Ai Y (A1y ?_);simp[B5];done)
theorem Afe (l:List Int) (f:Nat) (hf: ∀r∈l,A17 f [.t (.int .i64 r)] [] (.t (.int .i64 r)) []) (hl:l.length<=1000000):A17 218 [.t (.slice .any 1 (l.map Bz)),.t (.func (.func f) [] [])] [] (.t (.slice .any 1 (l.map Bz))) []:=by
 by_cases h:l=[]
 ·subst h;exact Aaa f
 ·refine A11 (b:=24) ?_
  rw[List.length_map]
  exact ZZ l f hf h hl
theorem Aff (l:List Int) (hl:l.length<=1000000):A17 152 [.t (.slice .any 1 (l.map Bz))] [] (.t (.slice .any 1 (l.map Bz))) []:=by
 have c:=Afe l _ (fun r _=>Afg r) hl
 refine ct0 Ag Tryz.func152 Y false Y Y ?_
 repeat'(first|exact prB|refine stC ?_|refine stU (fun h=>?_) fun h=>?_|refine stN (fun b hb=>?_)|refine stL ?_ (c:=c)|fail)
 exact Ai Y (A1y Y)
theorem VE (l:List Batch) (f:Nat) (hf: ∀r∈l,A17 f [.agg (Ah (Au r))] [] (.agg (Ah (Au r))) []) (hne:l≠[]) (hl:l.length<=1000000):A17 216 [.t (.slice .any 5 (l.map Au)),.t (.func (.func f) [] [])] [] (.row 24 5 0 l.length) [(24,.grow 5 (l.map Au))]:=by
 have hlm:(l.map Au).length=l.length:=List.length_map ..
 have hpos:0<l.length:=List.length_pos_iff.2 hne
 have hcn:(((l.map Au).length:Nat):Int)=(l.length:Int):=by rw[hlm]
 have hz:l.length*(56+1)<=140737488355328:=by omega
 refine ct1 Ag Tryz.func216 Y Y ?_
 repeat'(first|exact prB|refine stB ?_|refine stU (fun h=>?_) fun h=>?_|refine stN (fun b hb=>?_)|refine Dn Ag Y Y Y Y Y Y Y hcn hcn Y Y (Nat.le_refl _) hz ?_|fail)
 ·exfalso;simp_all
 refine A3 (ι:=Nat) (fun i=>i<=l.length) (fun i=>[(1,.t (.func (.func f) [] [])),(5,.row 24 5 0 l.length),(13,.t (.slice .any 5 (l.map Au))),(14,.t (.int .i64 ((l.map Au).length:Int))),(15,.t (.int .i64 i))]) (fun i=>[(24,.grow 5 ((l.map Au).take i++List.replicate ((l.map Au).length-i) [.int .i64 0,.int .i64 0,.int .i64 0,.bool false,.slice .nil 0 []]))]) (fun i=>l.length-i) 0 Ac ?_ ?_
 ·exact AE [] (Af Y Y (Af Y Y (Af Y Y (Af Y Y (Af Y Y Aj))))) (by simp;rfl)
 rintro i hi
 by_cases hlt:i<l.length
 ·have hr:l[i]?=some l[i]:=List.getElem?_eq_getElem hlt
  have hc:=hf l[i] (List.getElem_mem hlt)
  generalize l[i]=r at hr hc
  have hg:((l.map Au).take i++List.replicate ((l.map Au).length-i) [.int .i64 0,.int .i64 0,.int .i64 0,.bool false,.slice .nil 0 []])[0+i]?=some [.int .i64 0,.int .i64 0,.int .i64 0,.bool false,.slice .nil 0 []]:=by rw[Nat.zero_add];exact Gd (by rw[hlm];exact hlt)
  repeat'(first|exact prB|refine stC ?_|refine stU (fun h=>?_) fun h=>?_|refine stN (fun b hb=>?_)|refine stL ?_ (c:=hc)|refine CH Ag (kc:=i) Y Y Y Y Y Y Y Y hlt Y ?_|refine FT Ag (ts:=Au r) Y Y Y Y Y Y Y Y Y Y hg Y Y ?_|fail)
  refine Ay (i+1) hlt Aa [7] (Af Y Y (Af Y Y (Af Y Y (Af Y Y (Af Y (by rw[An Aa Aa];rfl) Aj))))) ?_
  have hsr:EL [.int .i64 0,.int .i64 0,.int .i64 0,.bool false,.slice .nil 0 []] 0 (Au r)=Au r:=rfl
  rw[<-FV (CL hr)];simp only[Nat.zero_add];rw[hsr];rfl
 ·repeat'(first|exact prB|refine stC ?_|refine stU (fun h=>?_) fun h=>?_|refine stN (fun b hb=>?_)|fail)
  have e:(l.map Au).take i++List.replicate ((l.map Au).length-i) [.int .i64 0,.int .i64 0,.int .i64 0,.bool false,.slice .nil 0 []]=l.map Au:=by
   rw[List.take_of_length_le Aa,show(l.map Au).length-i=0 by omega];simp
  rw[e]
  exact Ba [] Y Y Y (A1x _)
theorem VF (f:Nat):A17 216 [.t (.slice .any 5 []),.t (.func (.func f) [] [])] [] (.t (.slice .any 5 [])) []:=by
 refine ct0 Ag Tryz.func216 Y false Y Y ?_
 repeat'(first|exact prB|refine stC ?_|refine stU (fun h=>?_) fun h=>?_|refine stN (fun b hb=>?_)|refine Dn Ag (l:=0) (cc:=0) Y Y Y Y Y Y Y Y Y Y Y Aa Aa ?_|fail)
 ·exact Ai Y Ak
 refine AN 1 ?_
 refine AQ ?_
 repeat'(first|exact prB|refine stC ?_|refine stU (fun h=>?_) fun h=>?_|refine stN (fun b hb=>?_)|fail)
 all_goals first
  |(exfalso;simp_all;done)
  |exact Ai Y (A1y Y)
  |(refine Ai Y (A1y ?_);simp[B5];done)
theorem Yj (l:List Batch) (f:Nat) (hf: ∀r∈l,A17 f [.agg (Ah (Au r))] [] (.agg (Ah (Au r))) []) (hl:l.length<=1000000):A17 216 [.t (.slice .any 5 (l.map Au)),.t (.func (.func f) [] [])] [] (.t (.slice .any 5 (l.map Au))) []:=by
 by_cases h:l=[]
 ·subst h;exact VF f
 ·refine A11 (b:=24) ?_
  rw[List.length_map]
  exact VE l f hf h hl
theorem ZX (l:List Opn) (f:Nat) (hf: ∀r∈l,A17 f [.agg (Ah (As r))] [] (.agg (Ah (As r))) []) (hne:l≠[]) (hl:l.length<=1000000):A17 148 [.t (.slice .any 3 (l.map As)),.t (.func (.func f) [] [])] [] (.row 24 3 0 l.length) [(24,.grow 3 (l.map As))]:=by
 have hlm:(l.map As).length=l.length:=List.length_map ..
 have hpos:0<l.length:=List.length_pos_iff.2 hne
 have hcn:(((l.map As).length:Nat):Int)=(l.length:Int):=by rw[hlm]
 have hz:l.length*(40+1)<=140737488355328:=by omega
 refine ct1 Ag Tryz.func148 Y Y ?_
 repeat'(first|exact prB|refine stB ?_|refine stU (fun h=>?_) fun h=>?_|refine stN (fun b hb=>?_)|refine Dn Ag Y Y Y Y Y Y Y hcn hcn Y Y (Nat.le_refl _) hz ?_|fail)
 ·exfalso;simp_all
 refine A3 (ι:=Nat) (fun i=>i<=l.length) (fun i=>[(1,.t (.func (.func f) [] [])),(5,.row 24 3 0 l.length),(13,.t (.slice .any 3 (l.map As))),(14,.t (.int .i64 ((l.map As).length:Int))),(15,.t (.int .i64 i))]) (fun i=>[(24,.grow 3 ((l.map As).take i++List.replicate ((l.map As).length-i) [.int .i64 0,.int .i64 0,.slice .nil 0 []]))]) (fun i=>l.length-i) 0 Ac ?_ ?_
 ·exact AE [] (Af Y Y (Af Y Y (Af Y Y (Af Y Y (Af Y Y Aj))))) (by simp;rfl)
 rintro i hi
 by_cases hlt:i<l.length
 ·have hr:l[i]?=some l[i]:=List.getElem?_eq_getElem hlt
  have hc:=hf l[i] (List.getElem_mem hlt)
  generalize l[i]=r at hr hc
  have hg:((l.map As).take i++List.replicate ((l.map As).length-i) [.int .i64 0,.int .i64 0,.slice .nil 0 []])[0+i]?=some [.int .i64 0,.int .i64 0,.slice .nil 0 []]:=by rw[Nat.zero_add];exact Gd (by rw[hlm];exact hlt)
  repeat'(first|exact prB|refine stC ?_|refine stU (fun h=>?_) fun h=>?_|refine stN (fun b hb=>?_)|refine stL ?_ (c:=hc)|refine CH Ag (kc:=i) Y Y Y Y Y Y Y Y hlt Y ?_|refine FT Ag (ts:=As r) Y Y Y Y Y Y Y Y Y Y hg Y Y ?_|fail)
  refine Ay (i+1) hlt Aa [7] (Af Y Y (Af Y Y (Af Y Y (Af Y Y (Af Y (by rw[An Aa Aa];rfl) Aj))))) ?_
  have hsr:EL [.int .i64 0,.int .i64 0,.slice .nil 0 []] 0 (As r)=As r:=rfl
  rw[<-FV (CL hr)];simp only[Nat.zero_add];rw[hsr];rfl
 ·repeat'(first|exact prB|refine stC ?_|refine stU (fun h=>?_) fun h=>?_|refine stN (fun b hb=>?_)|fail)
  have e:(l.map As).take i++List.replicate ((l.map As).length-i) [.int .i64 0,.int .i64 0,.slice .nil 0 []]=l.map As:=by
   rw[List.take_of_length_le Aa,show(l.map As).length-i=0 by omega];simp
  rw[e]
  exact Ba [] Y Y Y (A1x _)
theorem ZY (f:Nat):A17 148 [.t (.slice .any 3 []),.t (.func (.func f) [] [])] [] (.t (.slice .any 3 [])) []:=by
 refine ct0 Ag Tryz.func148 Y false Y Y ?_
 repeat'(first|exact prB|refine stC ?_|refine stU (fun h=>?_) fun h=>?_|refine stN (fun b hb=>?_)|refine Dn Ag (l:=0) (cc:=0) Y Y Y Y Y Y Y Y Y Y Y Aa Aa ?_|fail)
 ·exact Ai Y Ak
 refine AN 1 ?_
 refine AQ ?_
 repeat'(first|exact prB|refine stC ?_|refine stU (fun h=>?_) fun h=>?_|refine stN (fun b hb=>?_)|fail)
 all_goals first
  |(exfalso;simp_all;done)
  |exact Ai Y (A1y Y)
  |(refine Ai Y (A1y ?_);simp[B5];done)
theorem Afd (l:List Opn) (f:Nat) (hf: ∀r∈l,A17 f [.agg (Ah (As r))] [] (.agg (Ah (As r))) []) (hl:l.length<=1000000):A17 148 [.t (.slice .any 3 (l.map As)),.t (.func (.func f) [] [])] [] (.t (.slice .any 3 (l.map As))) []:=by
 by_cases h:l=[]
 ·subst h;exact ZY f
 ·refine A11 (b:=24) ?_
  rw[List.length_map]
  exact ZX l f hf h hl
theorem Ye (l:List Prod) (f:Nat) (hf: ∀r∈l,A17 f [.agg (Ah (Al r))] [] (.agg (Ah (Al r))) []) (hne:l≠[]) (hl:l.length<=1000000):A17 150 [.t (.slice .any 4 (l.map Al)),.t (.func (.func f) [] [])] [] (.row 24 4 0 l.length) [(24,.grow 4 (l.map Al))]:=by
 have hlm:(l.map Al).length=l.length:=List.length_map ..
 have hpos:0<l.length:=List.length_pos_iff.2 hne
 have hcn:(((l.map Al).length:Nat):Int)=(l.length:Int):=by rw[hlm]
 have hz:l.length*(48+1)<=140737488355328:=by omega
 refine ct1 Ag Tryz.func150 Y Y ?_
 repeat'(first|exact prB|refine stB ?_|refine stU (fun h=>?_) fun h=>?_|refine stN (fun b hb=>?_)|refine Dn Ag Y Y Y Y Y Y Y hcn hcn Y Y (Nat.le_refl _) hz ?_|fail)
 ·exfalso;simp_all
 refine A3 (ι:=Nat) (fun i=>i<=l.length) (fun i=>[(1,.t (.func (.func f) [] [])),(5,.row 24 4 0 l.length),(13,.t (.slice .any 4 (l.map Al))),(14,.t (.int .i64 ((l.map Al).length:Int))),(15,.t (.int .i64 i))]) (fun i=>[(24,.grow 4 ((l.map Al).take i++List.replicate ((l.map Al).length-i) [.int .i64 0,.int .i64 0,.int .i64 0,.slice .nil 0 []]))]) (fun i=>l.length-i) 0 Ac ?_ ?_
 ·exact AE [] (Af Y Y (Af Y Y (Af Y Y (Af Y Y (Af Y Y Aj))))) (by simp;rfl)
 rintro i hi
 by_cases hlt:i<l.length
 ·have hr:l[i]?=some l[i]:=List.getElem?_eq_getElem hlt
  have hc:=hf l[i] (List.getElem_mem hlt)
  generalize l[i]=r at hr hc
  have hg:((l.map Al).take i++List.replicate ((l.map Al).length-i) [.int .i64 0,.int .i64 0,.int .i64 0,.slice .nil 0 []])[0+i]?=some [.int .i64 0,.int .i64 0,.int .i64 0,.slice .nil 0 []]:=by rw[Nat.zero_add];exact Gd (by rw[hlm];exact hlt)
  repeat'(first|exact prB|refine stC ?_|refine stU (fun h=>?_) fun h=>?_|refine stN (fun b hb=>?_)|refine stL ?_ (c:=hc)|refine CH Ag (kc:=i) Y Y Y Y Y Y Y Y hlt Y ?_|refine FT Ag (ts:=Al r) Y Y Y Y Y Y Y Y Y Y hg Y Y ?_|fail)
  refine Ay (i+1) hlt Aa [7] (Af Y Y (Af Y Y (Af Y Y (Af Y Y (Af Y (by rw[An Aa Aa];rfl) Aj))))) ?_
  have hsr:EL [.int .i64 0,.int .i64 0,.int .i64 0,.slice .nil 0 []] 0 (Al r)=Al r:=rfl
  rw[<-FV (CL hr)];simp only[Nat.zero_add];rw[hsr];rfl
 ·repeat'(first|exact prB|refine stC ?_|refine stU (fun h=>?_) fun h=>?_|refine stN (fun b hb=>?_)|fail)
  have e:(l.map Al).take i++List.replicate ((l.map Al).length-i) [.int .i64 0,.int .i64 0,.int .i64 0,.slice .nil 0 []]=l.map Al:=by
   rw[List.take_of_length_le Aa,show(l.map Al).length-i=0 by omega];simp
  rw[e]
  exact Ba [] Y Y Y (A1x _)
theorem Yf (f:Nat):A17 150 [.t (.slice .any 4 []),.t (.func (.func f) [] [])] [] (.t (.slice .any 4 [])) []:=by
 refine ct0 Ag Tryz.func150 Y false Y Y ?_
 repeat'(first|exact prB|refine stC ?_|refine stU (fun h=>?_) fun h=>?_|refine stN (fun b hb=>?_)|refine Dn Ag (l:=0) (cc:=0) Y Y Y Y Y Y Y Y Y Y Y Aa Aa ?_|fail)
 ·exact Ai Y Ak
 refine AN 1 ?_
 refine AQ ?_
 repeat'(first|exact prB|refine stC ?_|refine stU (fun h=>?_) fun h=>?_|refine stN (fun b hb=>?_)|fail)
 all_goals first
  |(exfalso;simp_all;done)
  |exact Ai Y (A1y Y)
  |(refine Ai Y (A1y ?_);simp[B5];done)
theorem ZT (l:List Prod) (f:Nat) (hf: ∀r∈l,A17 f [.agg (Ah (Al r))] [] (.agg (Ah (Al r))) []) (hl:l.length<=1000000):A17 150 [.t (.slice .any 4 (l.map Al)),.t (.func (.func f) [] [])] [] (.t (.slice .any 4 (l.map Al))) []:=by
 by_cases h:l=[]
 ·subst h;exact Yf f
 ·refine A11 (b:=24) ?_
  rw[List.length_map]
  exact Ye l f hf h hl
theorem Aim (o:Opn) (hs:JQ o):A17 149 [.agg (Ah (As o))] [] (.agg (Ah (As o))) []:=by
 have c:=Yj o.batches 53 (fun b hb=>TN b (hs.2 b hb)) hs.1
 refine ct0 Ag Tryz.func149 Y false Y Y ?_
 repeat'(first|exact prB|refine stC ?_|refine stU (fun h=>?_) fun h=>?_|refine stN (fun b hb=>?_)|refine stL ?_ (c:=c)|fail)
 exact Ai Y (A1y Y)
theorem Aik (p:Prod) (hs:p.seen.length<=1000000):A17 151 [.agg (Ah (Al p))] [] (.agg (Ah (Al p))) []:=by
 have c:=Ae7 p.seen hs
 refine ct0 Ag Tryz.func151 Y false Y Y ?_
 repeat'(first|exact prB|refine stC ?_|refine stU (fun h=>?_) fun h=>?_|refine stN (fun b hb=>?_)|refine stL ?_ (c:=c)|fail)
 exact Ai Y (A1y Y)
theorem RQ (p:Part) (hs:AR p):A17 81 [.agg (Ah (AD p))] [] (.agg (Ah (AD p))) []:=by
 have c1:=Ake p.rows hs.1
 have c2:=Afd p.opens 149 (fun o ho=>Aim o (hs.2.2.1 o ho)) hs.2.1
 have c3:=ZT p.prods 151 (fun x hx=>Aik x (hs.2.2.2.2 x hx)) hs.2.2.2.1
 refine ct0 Ag Tryz.func81 Y false Y Y ?_
 repeat'(first|exact prB|refine stC ?_|refine stU (fun h=>?_) fun h=>?_|refine stN (fun b hb=>?_)|refine stL ?_ (c:=c1)|refine stL ?_ (c:=c2)|refine stL ?_ (c:=c3)|fail)
 exact Ai Y (A1y Y)
def X5 (i:Image):List T:=AD i.p0++(AD i.p1++AD i.p2)
theorem Aec (i:Image) (hs:SmallI i):A17 39 [.agg (Ah (X5 i))] [] (.agg (Ah (X5 i))) []:=by
 have c0:=RQ i.p0 hs.p0
 have c1:=RQ i.p1 hs.p1
 have c2:=RQ i.p2 hs.p2
 have hw0:IntKind.i64.wrap (0+1)=1:=by decide+kernel
 have hw1:IntKind.i64.wrap (1+1)=2:=by decide+kernel
 have hw2:IntKind.i64.wrap (2+1)=3:=by decide+kernel
 refine ct0 Ag Tryz.func39 Y false Y Y ?_
 repeat'(first|exact prB|refine stC ?_|refine stU (fun h=>?_) fun h=>?_|refine stN (fun b hb=>?_)|refine stL ?_ (c:=c0)|refine stL ?_ (c:=c1)|refine stL ?_ (c:=c2)|refine AN 5 ?_|refine AQ ?_|rw[hw0]|rw[hw1]|rw[hw2]|fail)
 exact Ai Y (A1y Y)
theorem O3 (c:Coord) (hs:SmallC c):A17 82 [.agg (Ah (A4 c))] [] (.agg (Ah (A4 c))) []:=by
 have c1:=Aff c.parts hs.parts
 have c2:=ZV c.pends hs.pends
 refine ct0 Ag Tryz.func82 Y false Y Y ?_
 repeat'(first|exact prB|refine stC ?_|refine stU (fun h=>?_) fun h=>?_|refine stN (fun b hb=>?_)|refine stL ?_ (c:=c1)|refine stL ?_ (c:=c2)|fail)
 exact Ai Y (A1y Y)
theorem Ad8 (s:MState) (h0:SmallC s.t0) (h1:SmallC s.t1) (h2:SmallC s.t2):A17 40 [.agg (Ah (A6 s))] [] (.agg (Ah (A6 s))) []:=by
 have c0:=O3 s.t0 h0
 have c1:=O3 s.t1 h1
 have c2:=O3 s.t2 h2
 have hw0:IntKind.i64.wrap (0+1)=1:=by decide+kernel
 have hw1:IntKind.i64.wrap (1+1)=2:=by decide+kernel
 have hw2:IntKind.i64.wrap (2+1)=3:=by decide+kernel
 refine ct0 Ag Tryz.func40 Y false Y Y ?_
 repeat'(first|exact prB|refine stC ?_|refine stU (fun h=>?_) fun h=>?_|refine stN (fun b hb=>?_)|refine stL ?_ (c:=c0)|refine stL ?_ (c:=c1)|refine stL ?_ (c:=c2)|refine AN 5 ?_|refine AQ ?_|rw[hw0]|rw[hw1]|rw[hw2]|fail)
 exact Ai Y (A1y Y)
theorem O2 (i:Image) (hs:SmallI i):A17 16 [.agg (Ah (A1 i))] [] (.agg (Ah (A1 i))) []:=by
 have c0:=Aec i hs
 have c1:=Ad8 i.m hs.t0 hs.t1 hs.t2
 refine ct0 Ag Tryz.func16 Y false Y Y ?_
 repeat'(first|exact prB|refine stC ?_|refine stU (fun h=>?_) fun h=>?_|refine stN (fun b hb=>?_)|refine stL ?_ (c:=c0)|refine stL ?_ (c:=c1)|fail)
 exact Ai Y (A1y Y)
end Go.Proofs.YtmohpcgmdheafaaGreatDoor
