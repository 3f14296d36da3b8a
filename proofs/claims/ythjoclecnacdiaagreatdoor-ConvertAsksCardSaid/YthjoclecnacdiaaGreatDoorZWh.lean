/- Contracts of the program: copies of lists. -/
import Derived.Test.YthjoclecnacdiaaGreatDoorZM9
import Derived.Test.YthjoclecnacdiaaGreatDoorZM10
import Derived.Test.YthjoclecnacdiaaGreatDoorZM11
import Derived.Test.YthjoclecnacdiaaGreatDoorZW1
set_option linter.unusedVariables false
set_option linter.unusedSimpArgs false
namespace Go.Proofs.YthjoclecnacdiaaGreatDoor
open Go.Am
attribute [local irreducible] Decidable.decide
set_option maxRecDepth 100000
set_option maxHeartbeats 1000000
theorem O2 {α:Type} {l:List α} {z r:α} {i:Nat} (h:l[i]?=some r):(l.take i++List.replicate (l.length-i) z).set i r=l.take (i+1)++List.replicate (l.length-(i+1)) z:=by
 have hlt:=(List.getElem?_eq_some_iff.1 h).1
 rw[BK h,List.set_append_right _ _ (by rw[List.length_take];exact Nat.min_le_left ..),List.length_take,Nat.min_eq_left O,Nat.sub_self]
 rw[show l.length-i=(l.length-(i+1))+1 by omega,List.replicate_succ,List.set_cons_zero]
 simp
theorem Pt {α:Type} {l:List α} {z:α} {i:Nat} (h:i<l.length):(l.take i++List.replicate (l.length-i) z)[i]?=some z:=by
 rw[List.getElem?_append_right (by rw[List.length_take];exact Nat.min_le_left ..),List.length_take,Nat.min_eq_left O,Nat.sub_self,List.getElem?_replicate,if_pos O]
theorem Qd (r:Row):Ct Tryz.prog 65 [.agg (AA (AK r))] [] (.agg (AA (AK r))) []:=by
 refine ct0 Ab Tryz.func65 J false J J ?_
 repeat'(first|refine Ak Ab J J J J J ?_|refine Ap Ab J J J ?_|refine A0 ?_|refine A9 ?_|refine Aw Ab J J ?_|(refine A1 J J J J J (ht:=fun h=>?_) (hf:=fun h=>?_)<;>try exact prn)|(refine A2 J J J J J (ht:=fun h=>?_) (hf:=fun h=>?_)<;>try exact prn)|refine Ag J J J J J ?_|(refine Al J (ht:=fun h=>?_) (hf:=fun h=>?_)<;>try exact prn)|refine Au ?_|refine Aq ?_|refine Ar ?_|refine A3 ?_|refine Aj Ab J J J J J J J (Ac Z) J ?_|refine Ae Ab J J J J J J J Z (Ac Z) J ?_|refine Ah Ab J J J J J J J J J J J J J (by simp[Ad];omega) ?_|refine Af Ab J J J J J J J J J J J J J J (by simp[Ad];omega) ?_|refine A8 Ab J J J J J (fun _=>rfl) (fun b hb=>?_)|refine As J J J J ?_|refine A4 ?_|(refine A5 J J J J J (ht:=fun h=>?_) (hf:=fun h=>?_)<;>try exact prn)|(refine A6 J J J J J (ht:=fun h=>?_) (hf:=fun h=>?_)<;>try exact prn)|refine Ai J J J J J ?_|refine An J J J J J J J (Ac Z) J ?_|refine Ao J J J J J J J Z (Ac Z) J ?_)
 exact AC J (Sub.of_eq J)
theorem N3 (l:List Row) (f:Nat) (hf: ∀r,Ct Tryz.prog f [.agg (AA (AK r))] [] (.agg (AA (AK r))) []) (hne:l≠[]) (hl:l.length≤1000000):Ct Tryz.prog 64 [.t (.slice .any 5 (l.map AK)),.t (.func (.func f) [] [])] [] (.row 24 5 0 l.length) [(24,.grow 5 (l.map AK))]:=by
 have hlm:(l.map AK).length=l.length:=List.length_map ..
 have hpos:0<l.length:=List.length_pos_iff.2 hne
 have hcn:(((l.map AK).length:Nat):Int)=(l.length:Int):=by rw[hlm]
 have hz:l.length*(56+1)≤140737488355328:=by omega
 refine ct1 Ab Tryz.func64 J J ?_
 repeat'(first|refine Ak Ab J J J J J ?_|refine Ap Ab J J J ?_|refine A0 ?_|refine A9 ?_|refine Aw Ab J J ?_|(refine A1 J J J J J (ht:=fun h=>?_) (hf:=fun h=>?_)<;>try exact prn)|(refine A2 J J J J J (ht:=fun h=>?_) (hf:=fun h=>?_)<;>try exact prn)|refine Ag J J J J J ?_|(refine Al J (ht:=fun h=>?_) (hf:=fun h=>?_)<;>try exact prn)|refine Au ?_|refine Aq ?_|refine Ar ?_|refine Aj Ab J J J J J J J (Ac Z) J ?_|refine Ae Ab J J J J J J J Z (Ac Z) J ?_|refine Ah Ab J J J J J J J J J J J J J (by simp[Ad];omega) ?_|refine Af Ab J J J J J J J J J J J J J J (by simp[Ad];omega) ?_|refine A8 Ab J J J J J (fun _=>rfl) (fun b hb=>?_)|refine As J J J J ?_|refine A4 ?_|(refine A5 J J J J J (ht:=fun h=>?_) (hf:=fun h=>?_)<;>try exact prn)|(refine A6 J J J J J (ht:=fun h=>?_) (hf:=fun h=>?_)<;>try exact prn)|refine Ai J J J J J ?_|refine An J J J J J J J (Ac Z) J ?_|refine Ao J J J J J J J Z (Ac Z) J ?_|refine JJ Ab J J J J J J J hcn hcn J J (Nat.le_refl _) hz ?_)
 ·exfalso;simp_all
 refine BC (ι:=Nat) (fun i=>i≤l.length) (fun i=>[(1,.t (.func (.func f) [] [])),(5,.row 24 5 0 l.length),(13,.t (.slice .any 5 (l.map AK))),(14,.t (.int .i64 ((l.map AK).length:Int))),(15,.t (.int .i64 i))]) (fun i=>[(24,.grow 5 ((l.map AK).take i++List.replicate ((l.map AK).length-i) [.int .i64 0,.int .i64 0,.int .i64 0,.str [],.str []]))]) (fun i=>l.length-i) 0 Y ?_ ?_
 ·exact Ce [] (Av J J (Av J J (Av J J (Av J J (Av J J AJ))))) (by simp;rfl)
 rintro i hi
 by_cases hlt:i<l.length
 ·have hr:l[i]?=some l[i]:=List.getElem?_eq_getElem hlt
  generalize l[i]=r at hr
  have hc:=hf r
  have hg:((l.map AK).take i++List.replicate ((l.map AK).length-i) [.int .i64 0,.int .i64 0,.int .i64 0,.str [],.str []])[0+i]?=some [.int .i64 0,.int .i64 0,.int .i64 0,.str [],.str []]:=by rw[Nat.zero_add];exact Pt (by rw[hlm];exact hlt)
  repeat'(first|refine Ak Ab J J J J J ?_|refine Ap Ab J J J ?_|refine A0 ?_|refine A9 ?_|refine Aw Ab J J ?_|(refine A1 J J J J J (ht:=fun h=>?_) (hf:=fun h=>?_)<;>try exact prn)|(refine A2 J J J J J (ht:=fun h=>?_) (hf:=fun h=>?_)<;>try exact prn)|refine Ag J J J J J ?_|(refine Al J (ht:=fun h=>?_) (hf:=fun h=>?_)<;>try exact prn)|refine Au ?_|refine Aq ?_|refine Ar ?_|refine A3 ?_|refine Aj Ab J J J J J J J (Ac Z) J ?_|refine Ae Ab J J J J J J J Z (Ac Z) J ?_|refine Ah Ab J J J J J J J J J J J J J (by simp[Ad];omega) ?_|refine Af Ab J J J J J J J J J J J J J J (by simp[Ad];omega) ?_|refine A8 Ab J J J J J (fun _=>rfl) (fun b hb=>?_)|refine As J J J J ?_|refine A4 ?_|(refine A5 J J J J J (ht:=fun h=>?_) (hf:=fun h=>?_)<;>try exact prn)|(refine A6 J J J J J (ht:=fun h=>?_) (hf:=fun h=>?_)<;>try exact prn)|refine Ai J J J J J ?_|refine An J J J J J J J (Ac Z) J ?_|refine Ao J J J J J J J Z (Ac Z) J ?_|refine A7 Ab J J J J J J J (hc) J J ?_|refine Ca Ab (kc:=i) J J J J J J J J hlt J ?_|refine KT Ab (ts:=AK r) J J J J J J J J J J hg J J ?_)
  refine BB (i+1) hlt O [7] (Av J J (Av J J (Av J J (Av J J (Av J (by rw[AW O O];rfl) AJ))))) ?_
  have hsr:Ed [.int .i64 0,.int .i64 0,.int .i64 0,.str [],.str []] 0 (AK r)=AK r:=rfl
  rw[←O2 (Ac hr)];simp only[Nat.zero_add];rw[hsr];rfl
 ·repeat'(first|refine Ak Ab J J J J J ?_|refine Ap Ab J J J ?_|refine A0 ?_|refine A9 ?_|refine Aw Ab J J ?_|(refine A1 J J J J J (ht:=fun h=>?_) (hf:=fun h=>?_)<;>try exact prn)|(refine A2 J J J J J (ht:=fun h=>?_) (hf:=fun h=>?_)<;>try exact prn)|refine Ag J J J J J ?_|(refine Al J (ht:=fun h=>?_) (hf:=fun h=>?_)<;>try exact prn)|refine Au ?_|refine Aq ?_|refine Ar ?_|refine A3 ?_|refine Aj Ab J J J J J J J (Ac Z) J ?_|refine Ae Ab J J J J J J J Z (Ac Z) J ?_|refine Ah Ab J J J J J J J J J J J J J (by simp[Ad];omega) ?_|refine Af Ab J J J J J J J J J J J J J J (by simp[Ad];omega) ?_|refine A8 Ab J J J J J (fun _=>rfl) (fun b hb=>?_)|refine As J J J J ?_|refine A4 ?_|(refine A5 J J J J J (ht:=fun h=>?_) (hf:=fun h=>?_)<;>try exact prn)|(refine A6 J J J J J (ht:=fun h=>?_) (hf:=fun h=>?_)<;>try exact prn)|refine Ai J J J J J ?_|refine An J J J J J J J (Ac Z) J ?_|refine Ao J J J J J J J Z (Ac Z) J ?_)
  have e:(l.map AK).take i++List.replicate ((l.map AK).length-i) [.int .i64 0,.int .i64 0,.int .i64 0,.str [],.str []]=l.map AK:=by
   rw[List.take_of_length_le O,show(l.map AK).length-i=0 by omega];simp
  rw[e]
  exact BO [] J J J (Sub.refl _)
theorem Tk (f:Nat):Ct Tryz.prog 64 [.t (.slice .any 5 []),.t (.func (.func f) [] [])] [] (.t (.slice .any 5 [])) []:=by
 refine ct0 Ab Tryz.func64 J false J J ?_
 repeat'(first|refine Ak Ab J J J J J ?_|refine Ap Ab J J J ?_|refine A0 ?_|refine A9 ?_|refine Aw Ab J J ?_|(refine A1 J J J J J (ht:=fun h=>?_) (hf:=fun h=>?_)<;>try exact prn)|(refine A2 J J J J J (ht:=fun h=>?_) (hf:=fun h=>?_)<;>try exact prn)|refine Ag J J J J J ?_|(refine Al J (ht:=fun h=>?_) (hf:=fun h=>?_)<;>try exact prn)|refine Au ?_|refine Aq ?_|refine Ar ?_|refine A3 ?_|refine Aj Ab J J J J J J J (Ac Z) J ?_|refine Ae Ab J J J J J J J Z (Ac Z) J ?_|refine Ah Ab J J J J J J J J J J J J J (by simp[Ad];omega) ?_|refine Af Ab J J J J J J J J J J J J J J (by simp[Ad];omega) ?_|refine A8 Ab J J J J J (fun _=>rfl) (fun b hb=>?_)|refine As J J J J ?_|refine A4 ?_|(refine A5 J J J J J (ht:=fun h=>?_) (hf:=fun h=>?_)<;>try exact prn)|(refine A6 J J J J J (ht:=fun h=>?_) (hf:=fun h=>?_)<;>try exact prn)|refine Ai J J J J J ?_|refine An J J J J J J J (Ac Z) J ?_|refine Ao J J J J J J J Z (Ac Z) J ?_|refine JJ Ab (l:=0) (cc:=0) J J J J J J J J J J J O O ?_)
 ·exact AC J AY
 refine EW 1 ?_
 refine Gh ?_
 repeat'(first|refine Ak Ab J J J J J ?_|refine Ap Ab J J J ?_|refine A0 ?_|refine A9 ?_|refine Aw Ab J J ?_|(refine A1 J J J J J (ht:=fun h=>?_) (hf:=fun h=>?_)<;>try exact prn)|(refine A2 J J J J J (ht:=fun h=>?_) (hf:=fun h=>?_)<;>try exact prn)|refine Ag J J J J J ?_|(refine Al J (ht:=fun h=>?_) (hf:=fun h=>?_)<;>try exact prn)|refine Au ?_|refine Aq ?_|refine Ar ?_|refine A3 ?_|refine Aj Ab J J J J J J J (Ac Z) J ?_|refine Ae Ab J J J J J J J Z (Ac Z) J ?_|refine Ah Ab J J J J J J J J J J J J J (by simp[Ad];omega) ?_|refine Af Ab J J J J J J J J J J J J J J (by simp[Ad];omega) ?_|refine A8 Ab J J J J J (fun _=>rfl) (fun b hb=>?_)|refine As J J J J ?_|refine A4 ?_|(refine A5 J J J J J (ht:=fun h=>?_) (hf:=fun h=>?_)<;>try exact prn)|(refine A6 J J J J J (ht:=fun h=>?_) (hf:=fun h=>?_)<;>try exact prn)|refine Ai J J J J J ?_|refine An J J J J J J J (Ac Z) J ?_|refine Ao J J J J J J J Z (Ac Z) J ?_)
 all_goals first
  |(exfalso;simp_all;done)
  |exact AC J (Sub.of_eq J)
  |(refine AC J (Sub.of_eq ?_);simp[D1];done)
theorem UF (l:List Row) (f:Nat) (hf: ∀r,Ct Tryz.prog f [.agg (AA (AK r))] [] (.agg (AA (AK r))) []) (hl:l.length≤1000000):Ct Tryz.prog 64 [.t (.slice .any 5 (l.map AK)),.t (.func (.func f) [] [])] [] (.t (.slice .any 5 (l.map AK))) []:=by
 by_cases h:l=[]
 ·subst h;exact Tk f
 ·refine Ct.freeze1 (b:=24) ?_
  rw[List.length_map]
  exact N3 l f hf h hl
theorem Qc (l:List Row) (hl:l.length≤1000000):Ct Tryz.prog 43 [.t (.slice .any 5 (l.map AK))] [] (.t (.slice .any 5 (l.map AK))) []:=by
 have c:=UF l _ Qd hl
 refine ct0 Ab Tryz.func43 J false J J ?_
 repeat'(first|refine Ak Ab J J J J J ?_|refine Ap Ab J J J ?_|refine A0 ?_|refine A9 ?_|refine Aw Ab J J ?_|(refine A1 J J J J J (ht:=fun h=>?_) (hf:=fun h=>?_)<;>try exact prn)|(refine A2 J J J J J (ht:=fun h=>?_) (hf:=fun h=>?_)<;>try exact prn)|refine Ag J J J J J ?_|(refine Al J (ht:=fun h=>?_) (hf:=fun h=>?_)<;>try exact prn)|refine Au ?_|refine Aq ?_|refine Ar ?_|refine A3 ?_|refine Aj Ab J J J J J J J (Ac Z) J ?_|refine Ae Ab J J J J J J J Z (Ac Z) J ?_|refine Ah Ab J J J J J J J J J J J J J (by simp[Ad];omega) ?_|refine Af Ab J J J J J J J J J J J J J J (by simp[Ad];omega) ?_|refine A8 Ab J J J J J (fun _=>rfl) (fun b hb=>?_)|refine As J J J J ?_|refine A4 ?_|(refine A5 J J J J J (ht:=fun h=>?_) (hf:=fun h=>?_)<;>try exact prn)|(refine A6 J J J J J (ht:=fun h=>?_) (hf:=fun h=>?_)<;>try exact prn)|refine Ai J J J J J ?_|refine An J J J J J J J (Ac Z) J ?_|refine Ao J J J J J J J Z (Ac Z) J ?_|refine A7 Ab J J J J J J J (c) J J ?_)
 exact AC J (Sub.of_eq J)
theorem UI (r:Rec):Ct Tryz.prog 85 [.agg (AA (Bk r))] [] (.agg (AA (Bk r))) []:=by
 refine ct0 Ab Tryz.func85 J false J J ?_
 repeat'(first|refine Ak Ab J J J J J ?_|refine Ap Ab J J J ?_|refine A0 ?_|refine A9 ?_|refine Aw Ab J J ?_|(refine A1 J J J J J (ht:=fun h=>?_) (hf:=fun h=>?_)<;>try exact prn)|(refine A2 J J J J J (ht:=fun h=>?_) (hf:=fun h=>?_)<;>try exact prn)|refine Ag J J J J J ?_|(refine Al J (ht:=fun h=>?_) (hf:=fun h=>?_)<;>try exact prn)|refine Au ?_|refine Aq ?_|refine Ar ?_|refine A3 ?_|refine Aj Ab J J J J J J J (Ac Z) J ?_|refine Ae Ab J J J J J J J Z (Ac Z) J ?_|refine Ah Ab J J J J J J J J J J J J J (by simp[Ad];omega) ?_|refine Af Ab J J J J J J J J J J J J J J (by simp[Ad];omega) ?_|refine A8 Ab J J J J J (fun _=>rfl) (fun b hb=>?_)|refine As J J J J ?_|refine A4 ?_|(refine A5 J J J J J (ht:=fun h=>?_) (hf:=fun h=>?_)<;>try exact prn)|(refine A6 J J J J J (ht:=fun h=>?_) (hf:=fun h=>?_)<;>try exact prn)|refine Ai J J J J J ?_|refine An J J J J J J J (Ac Z) J ?_|refine Ao J J J J J J J Z (Ac Z) J ?_)
 exact AC J (Sub.of_eq J)
theorem Tn (l:List Rec) (f:Nat) (hf: ∀r,Ct Tryz.prog f [.agg (AA (Bk r))] [] (.agg (AA (Bk r))) []) (hne:l≠[]) (hl:l.length≤1000000):Ct Tryz.prog 84 [.t (.slice .any 2 (l.map Bk)),.t (.func (.func f) [] [])] [] (.row 24 2 0 l.length) [(24,.grow 2 (l.map Bk))]:=by
 have hlm:(l.map Bk).length=l.length:=List.length_map ..
 have hpos:0<l.length:=List.length_pos_iff.2 hne
 have hcn:(((l.map Bk).length:Nat):Int)=(l.length:Int):=by rw[hlm]
 have hz:l.length*(32+1)≤140737488355328:=by omega
 refine ct1 Ab Tryz.func84 J J ?_
 repeat'(first|refine Ak Ab J J J J J ?_|refine Ap Ab J J J ?_|refine A0 ?_|refine A9 ?_|refine Aw Ab J J ?_|(refine A1 J J J J J (ht:=fun h=>?_) (hf:=fun h=>?_)<;>try exact prn)|(refine A2 J J J J J (ht:=fun h=>?_) (hf:=fun h=>?_)<;>try exact prn)|refine Ag J J J J J ?_|(refine Al J (ht:=fun h=>?_) (hf:=fun h=>?_)<;>try exact prn)|refine Au ?_|refine Aq ?_|refine Ar ?_|refine Aj Ab J J J J J J J (Ac Z) J ?_|refine Ae Ab J J J J J J J Z (Ac Z) J ?_|refine Ah Ab J J J J J J J J J J J J J (by simp[Ad];omega) ?_|refine Af Ab J J J J J J J J J J J J J J (by simp[Ad];omega) ?_|refine A8 Ab J J J J J (fun _=>rfl) (fun b hb=>?_)|refine As J J J J ?_|refine A4 ?_|(refine A5 J J J J J (ht:=fun h=>?_) (hf:=fun h=>?_)<;>try exact prn)|(refine A6 J J J J J (ht:=fun h=>?_) (hf:=fun h=>?_)<;>try exact prn)|refine Ai J J J J J ?_|refine An J J J J J J J (Ac Z) J ?_|refine Ao J J J J J J J Z (Ac Z) J ?_|refine JJ Ab J J J J J J J hcn hcn J J (Nat.le_refl _) hz ?_)
 ·exfalso;simp_all
 refine BC (ι:=Nat) (fun i=>i≤l.length) (fun i=>[(1,.t (.func (.func f) [] [])),(5,.row 24 2 0 l.length),(13,.t (.slice .any 2 (l.map Bk))),(14,.t (.int .i64 ((l.map Bk).length:Int))),(15,.t (.int .i64 i))]) (fun i=>[(24,.grow 2 ((l.map Bk).take i++List.replicate ((l.map Bk).length-i) [.str [],.str []]))]) (fun i=>l.length-i) 0 Y ?_ ?_
 ·exact Ce [] (Av J J (Av J J (Av J J (Av J J (Av J J AJ))))) (by simp;rfl)
 rintro i hi
 by_cases hlt:i<l.length
 ·have hr:l[i]?=some l[i]:=List.getElem?_eq_getElem hlt
  generalize l[i]=r at hr
  have hc:=hf r
  have hg:((l.map Bk).take i++List.replicate ((l.map Bk).length-i) [.str [],.str []])[0+i]?=some [.str [],.str []]:=by rw[Nat.zero_add];exact Pt (by rw[hlm];exact hlt)
  repeat'(first|refine Ak Ab J J J J J ?_|refine Ap Ab J J J ?_|refine A0 ?_|refine A9 ?_|refine Aw Ab J J ?_|(refine A1 J J J J J (ht:=fun h=>?_) (hf:=fun h=>?_)<;>try exact prn)|(refine A2 J J J J J (ht:=fun h=>?_) (hf:=fun h=>?_)<;>try exact prn)|refine Ag J J J J J ?_|(refine Al J (ht:=fun h=>?_) (hf:=fun h=>?_)<;>try exact prn)|refine Au ?_|refine Aq ?_|refine Ar ?_|refine A3 ?_|refine Aj Ab J J J J J J J (Ac Z) J ?_|refine Ae Ab J J J J J J J Z (Ac Z) J ?_|refine Ah Ab J J J J J J J J J J J J J (by simp[Ad];omega) ?_|refine Af Ab J J J J J J J J J J J J J J (by simp[Ad];omega) ?_|refine A8 Ab J J J J J (fun _=>rfl) (fun b hb=>?_)|refine As J J J J ?_|refine A4 ?_|(refine A5 J J J J J (ht:=fun h=>?_) (hf:=fun h=>?_)<;>try exact prn)|(refine A6 J J J J J (ht:=fun h=>?_) (hf:=fun h=>?_)<;>try exact prn)|refine Ai J J J J J ?_|refine An J J J J J J J (Ac Z) J ?_|refine Ao J J J J J J J Z (Ac Z) J ?_|refine A7 Ab J J J J J J J (hc) J J ?_|refine Ca Ab (kc:=i) J J J J J J J J hlt J ?_|refine KT Ab (ts:=Bk r) J J J J J J J J J J hg J J ?_)
  refine BB (i+1) hlt O [7] (Av J J (Av J J (Av J J (Av J J (Av J (by rw[AW O O];rfl) AJ))))) ?_
  have hsr:Ed [.str [],.str []] 0 (Bk r)=Bk r:=rfl
  rw[←O2 (Ac hr)];simp only[Nat.zero_add];rw[hsr];rfl
 ·repeat'(first|refine Ak Ab J J J J J ?_|refine Ap Ab J J J ?_|refine A0 ?_|refine A9 ?_|refine Aw Ab J J ?_|(refine A1 J J J J J (ht:=fun h=>?_) (hf:=fun h=>?_)<;>try exact prn)|(refine A2 J J J J J (ht:=fun h=>?_) (hf:=fun h=>?_)<;>try exact prn)|refine Ag J J J J J ?_|(refine Al J (ht:=fun h=>?_) (hf:=fun h=>?_)<;>try exact prn)|refine Au ?_|refine Aq ?_|refine Ar ?_|refine A3 ?_|refine Aj Ab J J J J J J J (Ac Z) J ?_|refine Ae Ab J J J J J J J Z (Ac Z) J ?_|refine Ah Ab J J J J J J J J J J J J J (by simp[Ad];omega) ?_|refine Af Ab J J J J J J J J J J J J J J (by simp[Ad];omega) ?_|refine A8 Ab J J J J J (fun _=>rfl) (fun b hb=>?_)|refine As J J J J ?_|refine A4 ?_|(refine A5 J J J J J (ht:=fun h=>?_) (hf:=fun h=>?_)<;>try exact prn)|(refine A6 J J J J J (ht:=fun h=>?_) (hf:=fun h=>?_)<;>try exact prn)|refine Ai J J J J J ?_|refine An J J J J J J J (Ac Z) J ?_|refine Ao J J J J J J J Z (Ac Z) J ?_)
  have e:(l.map Bk).take i++List.replicate ((l.map Bk).length-i) [.str [],.str []]=l.map Bk:=by
   rw[List.take_of_length_le O,show(l.map Bk).length-i=0 by omega];simp
  rw[e]
  exact BO [] J J J (Sub.refl _)
theorem To (f:Nat):Ct Tryz.prog 84 [.t (.slice .any 2 []),.t (.func (.func f) [] [])] [] (.t (.slice .any 2 [])) []:=by
 refine ct0 Ab Tryz.func84 J false J J ?_
 repeat'(first|refine Ak Ab J J J J J ?_|refine Ap Ab J J J ?_|refine A0 ?_|refine A9 ?_|refine Aw Ab J J ?_|(refine A1 J J J J J (ht:=fun h=>?_) (hf:=fun h=>?_)<;>try exact prn)|(refine A2 J J J J J (ht:=fun h=>?_) (hf:=fun h=>?_)<;>try exact prn)|refine Ag J J J J J ?_|(refine Al J (ht:=fun h=>?_) (hf:=fun h=>?_)<;>try exact prn)|refine Au ?_|refine Aq ?_|refine Ar ?_|refine A3 ?_|refine Aj Ab J J J J J J J (Ac Z) J ?_|refine Ae Ab J J J J J J J Z (Ac Z) J ?_|refine Ah Ab J J J J J J J J J J J J J (by simp[Ad];omega) ?_|refine Af Ab J J J J J J J J J J J J J J (by simp[Ad];omega) ?_|refine A8 Ab J J J J J (fun _=>rfl) (fun b hb=>?_)|refine As J J J J ?_|refine A4 ?_|(refine A5 J J J J J (ht:=fun h=>?_) (hf:=fun h=>?_)<;>try exact prn)|(refine A6 J J J J J (ht:=fun h=>?_) (hf:=fun h=>?_)<;>try exact prn)|refine Ai J J J J J ?_|refine An J J J J J J J (Ac Z) J ?_|refine Ao J J J J J J J Z (Ac Z) J ?_|refine JJ Ab (l:=0) (cc:=0) J J J J J J J J J J J O O ?_)
 ·exact AC J AY
 refine EW 1 ?_
 refine Gh ?_
 repeat'(first|refine Ak Ab J J J J J ?_|refine Ap Ab J J J ?_|refine A0 ?_|refine A9 ?_|refine Aw Ab J J ?_|(refine A1 J J J J J (ht:=fun h=>?_) (hf:=fun h=>?_)<;>try exact prn)|(refine A2 J J J J J (ht:=fun h=>?_) (hf:=fun h=>?_)<;>try exact prn)|refine Ag J J J J J ?_|(refine Al J (ht:=fun h=>?_) (hf:=fun h=>?_)<;>try exact prn)|refine Au ?_|refine Aq ?_|refine Ar ?_|refine A3 ?_|refine Aj Ab J J J J J J J (Ac Z) J ?_|refine Ae Ab J J J J J J J Z (Ac Z) J ?_|refine Ah Ab J J J J J J J J J J J J J (by simp[Ad];omega) ?_|refine Af Ab J J J J J J J J J J J J J J (by simp[Ad];omega) ?_|refine A8 Ab J J J J J (fun _=>rfl) (fun b hb=>?_)|refine As J J J J ?_|refine A4 ?_|(refine A5 J J J J J (ht:=fun h=>?_) (hf:=fun h=>?_)<;>try exact prn)|(refine A6 J J J J J (ht:=fun h=>?_) (hf:=fun h=>?_)<;>try exact prn)|refine Ai J J J J J ?_|refine An J J J J J J J (Ac Z) J ?_|refine Ao J J J J J J J Z (Ac Z) J ?_)
 all_goals first
  |(exfalso;simp_all;done)
  |exact AC J (Sub.of_eq J)
  |(refine AC J (Sub.of_eq ?_);simp[D1];done)
theorem UG (l:List Rec) (f:Nat) (hf: ∀r,Ct Tryz.prog f [.agg (AA (Bk r))] [] (.agg (AA (Bk r))) []) (hl:l.length≤1000000):Ct Tryz.prog 84 [.t (.slice .any 2 (l.map Bk)),.t (.func (.func f) [] [])] [] (.t (.slice .any 2 (l.map Bk))) []:=by
 by_cases h:l=[]
 ·subst h;exact To f
 ·refine Ct.freeze1 (b:=24) ?_
  rw[List.length_map]
  exact Tn l f hf h hl
theorem UH (l:List Rec) (hl:l.length≤1000000):Ct Tryz.prog 58 [.t (.slice .any 2 (l.map Bk))] [] (.t (.slice .any 2 (l.map Bk))) []:=by
 have c:=UG l _ UI hl
 refine ct0 Ab Tryz.func58 J false J J ?_
 repeat'(first|refine Ak Ab J J J J J ?_|refine Ap Ab J J J ?_|refine A0 ?_|refine A9 ?_|refine Aw Ab J J ?_|(refine A1 J J J J J (ht:=fun h=>?_) (hf:=fun h=>?_)<;>try exact prn)|(refine A2 J J J J J (ht:=fun h=>?_) (hf:=fun h=>?_)<;>try exact prn)|refine Ag J J J J J ?_|(refine Al J (ht:=fun h=>?_) (hf:=fun h=>?_)<;>try exact prn)|refine Au ?_|refine Aq ?_|refine Ar ?_|refine A3 ?_|refine Aj Ab J J J J J J J (Ac Z) J ?_|refine Ae Ab J J J J J J J Z (Ac Z) J ?_|refine Ah Ab J J J J J J J J J J J J J (by simp[Ad];omega) ?_|refine Af Ab J J J J J J J J J J J J J J (by simp[Ad];omega) ?_|refine A8 Ab J J J J J (fun _=>rfl) (fun b hb=>?_)|refine As J J J J ?_|refine A4 ?_|(refine A5 J J J J J (ht:=fun h=>?_) (hf:=fun h=>?_)<;>try exact prn)|(refine A6 J J J J J (ht:=fun h=>?_) (hf:=fun h=>?_)<;>try exact prn)|refine Ai J J J J J ?_|refine An J J J J J J J (Ac Z) J ?_|refine Ao J J J J J J J Z (Ac Z) J ?_|refine A7 Ab J J J J J J J (c) J J ?_)
 exact AC J (Sub.of_eq J)
theorem Tl (l:List Row) (hne:l≠[]) (hl:l.length≤1000000):Ct Tryz.prog 43 [.t (.slice .any 5 (l.map AK))] [] (.row 24 5 0 l.length) [(24,.grow 5 (l.map AK))]:=by
 have c:=N3 l _ Qd hne hl
 refine ct1 Ab Tryz.func43 J J ?_
 repeat'(first|refine Ak Ab J J J J J ?_|refine Ap Ab J J J ?_|refine A0 ?_|refine A9 ?_|refine Aw Ab J J ?_|(refine A1 J J J J J (ht:=fun h=>?_) (hf:=fun h=>?_)<;>try exact prn)|(refine A2 J J J J J (ht:=fun h=>?_) (hf:=fun h=>?_)<;>try exact prn)|refine Ag J J J J J ?_|(refine Al J (ht:=fun h=>?_) (hf:=fun h=>?_)<;>try exact prn)|refine Au ?_|refine Aq ?_|refine Ar ?_|refine A3 ?_|refine Aj Ab J J J J J J J (Ac Z) J ?_|refine Ae Ab J J J J J J J Z (Ac Z) J ?_|refine Ah Ab J J J J J J J J J J J J J (by simp[Ad];omega) ?_|refine Af Ab J J J J J J J J J J J J J J (by simp[Ad];omega) ?_|refine A8 Ab J J J J J (fun _=>rfl) (fun b hb=>?_)|refine As J J J J ?_|refine A4 ?_|(refine A5 J J J J J (ht:=fun h=>?_) (hf:=fun h=>?_)<;>try exact prn)|(refine A6 J J J J J (ht:=fun h=>?_) (hf:=fun h=>?_)<;>try exact prn)|refine Ai J J J J J ?_|refine An J J J J J J J (Ac Z) J ?_|refine Ao J J J J J J J Z (Ac Z) J ?_|refine AR Ab [] [(24,24)] J J J J J c J J J J J ?_)
 exact BO [] J J J (Sub.refl _)
theorem Tm:Ct Tryz.prog 43 [.t (.slice .any 5 [])] [] (.t (.slice .any 5 [])) []:=Qc [] Y
theorem SY (b:Batch) (hl:b.recs.length≤1000000):Ct Tryz.prog 33 [.agg (AA (Bj b))] [] (.agg (AA (Bj b))) []:=by
 have c:=UH b.recs hl
 refine ct0 Ab Tryz.func33 J false J J ?_
 repeat'(first|refine Ak Ab J J J J J ?_|refine Ap Ab J J J ?_|refine A0 ?_|refine A9 ?_|refine Aw Ab J J ?_|(refine A1 J J J J J (ht:=fun h=>?_) (hf:=fun h=>?_)<;>try exact prn)|(refine A2 J J J J J (ht:=fun h=>?_) (hf:=fun h=>?_)<;>try exact prn)|refine Ag J J J J J ?_|(refine Al J (ht:=fun h=>?_) (hf:=fun h=>?_)<;>try exact prn)|refine Au ?_|refine Aq ?_|refine Ar ?_|refine A3 ?_|refine Aj Ab J J J J J J J (Ac Z) J ?_|refine Ae Ab J J J J J J J Z (Ac Z) J ?_|refine Ah Ab J J J J J J J J J J J J J (by simp[Ad];omega) ?_|refine Af Ab J J J J J J J J J J J J J J (by simp[Ad];omega) ?_|refine A8 Ab J J J J J (fun _=>rfl) (fun b hb=>?_)|refine As J J J J ?_|refine A4 ?_|(refine A5 J J J J J (ht:=fun h=>?_) (hf:=fun h=>?_)<;>try exact prn)|(refine A6 J J J J J (ht:=fun h=>?_) (hf:=fun h=>?_)<;>try exact prn)|refine Ai J J J J J ?_|refine An J J J J J J J (Ac Z) J ?_|refine Ao J J J J J J J Z (Ac Z) J ?_|refine A7 Ab J J J J J J J (c) J J ?_)
 exact AC J (Sub.of_eq J)
theorem VL (r:Req) (hl:r.b.recs.length≤1000000):Ct Tryz.prog 20 [.agg (AA (BU r))] [] (.agg (AA (BU r))) []:=by
 have c:=SY r.b hl
 refine ct0 Ab Tryz.func20 J false J J ?_
 repeat'(first|refine Ak Ab J J J J J ?_|refine Ap Ab J J J ?_|refine A0 ?_|refine A9 ?_|refine Aw Ab J J ?_|(refine A1 J J J J J (ht:=fun h=>?_) (hf:=fun h=>?_)<;>try exact prn)|(refine A2 J J J J J (ht:=fun h=>?_) (hf:=fun h=>?_)<;>try exact prn)|refine Ag J J J J J ?_|(refine Al J (ht:=fun h=>?_) (hf:=fun h=>?_)<;>try exact prn)|refine Au ?_|refine Aq ?_|refine Ar ?_|refine A3 ?_|refine Aj Ab J J J J J J J (Ac Z) J ?_|refine Ae Ab J J J J J J J Z (Ac Z) J ?_|refine Ah Ab J J J J J J J J J J J J J (by simp[Ad];omega) ?_|refine Af Ab J J J J J J J J J J J J J J (by simp[Ad];omega) ?_|refine A8 Ab J J J J J (fun _=>rfl) (fun b hb=>?_)|refine As J J J J ?_|refine A4 ?_|(refine A5 J J J J J (ht:=fun h=>?_) (hf:=fun h=>?_)<;>try exact prn)|(refine A6 J J J J J (ht:=fun h=>?_) (hf:=fun h=>?_)<;>try exact prn)|refine Ai J J J J J ?_|refine An J J J J J J J (Ac Z) J ?_|refine Ao J J J J J J J Z (Ac Z) J ?_|refine A7 Ab J J J J J J J (c) J J ?_)
 exact AC J (Sub.of_eq J)
def Acy (r:Reply) (x:AV):AV:=.agg [.t (.int .i8 r.kind),.t (.int .i64 r.e),.t (.int .i64 r.pid),.t (.int .i64 r.epoch),.t (.int .i64 r.offset),x]
theorem QS (r:Reply) (hne:r.rows≠[]) (hl:r.rows.length≤1000000):Ct Tryz.prog 26 [.agg (AA (AH r))] [] (Acy r (.row 24 5 0 r.rows.length)) [(24,.grow 5 (r.rows.map AK))]:=by
 have c:=Tl r.rows hne hl
 refine ct1 Ab Tryz.func26 J J ?_
 repeat'(first|refine Ak Ab J J J J J ?_|refine Ap Ab J J J ?_|refine A0 ?_|refine A9 ?_|refine Aw Ab J J ?_|(refine A1 J J J J J (ht:=fun h=>?_) (hf:=fun h=>?_)<;>try exact prn)|(refine A2 J J J J J (ht:=fun h=>?_) (hf:=fun h=>?_)<;>try exact prn)|refine Ag J J J J J ?_|(refine Al J (ht:=fun h=>?_) (hf:=fun h=>?_)<;>try exact prn)|refine Au ?_|refine Aq ?_|refine Ar ?_|refine A3 ?_|refine Aj Ab J J J J J J J (Ac Z) J ?_|refine Ae Ab J J J J J J J Z (Ac Z) J ?_|refine Ah Ab J J J J J J J J J J J J J (by simp[Ad];omega) ?_|refine Af Ab J J J J J J J J J J J J J J (by simp[Ad];omega) ?_|refine A8 Ab J J J J J (fun _=>rfl) (fun b hb=>?_)|refine As J J J J ?_|refine A4 ?_|(refine A5 J J J J J (ht:=fun h=>?_) (hf:=fun h=>?_)<;>try exact prn)|(refine A6 J J J J J (ht:=fun h=>?_) (hf:=fun h=>?_)<;>try exact prn)|refine Ai J J J J J ?_|refine An J J J J J J J (Ac Z) J ?_|refine Ao J J J J J J J Z (Ac Z) J ?_|refine AR Ab [] [(24,24)] J J J J J c J J J J J ?_)
 exact BO [1,2] J J J (Sub.refl _)
theorem QT (r:Reply) (h:r.rows=[]):Ct Tryz.prog 26 [.agg (AA (AH r))] [] (.agg (AA (AH r))) []:=by
 have c:=Tm
 have e:AH r=[.int .i8 r.kind,.int .i64 r.e,.int .i64 r.pid,.int .i64 r.epoch,.int .i64 r.offset,.slice .any 5 []]:=by simp[AH,h]
 rw[e]
 refine ct0 Ab Tryz.func26 J false J J ?_
 repeat'(first|refine Ak Ab J J J J J ?_|refine Ap Ab J J J ?_|refine A0 ?_|refine A9 ?_|refine Aw Ab J J ?_|(refine A1 J J J J J (ht:=fun h=>?_) (hf:=fun h=>?_)<;>try exact prn)|(refine A2 J J J J J (ht:=fun h=>?_) (hf:=fun h=>?_)<;>try exact prn)|refine Ag J J J J J ?_|(refine Al J (ht:=fun h=>?_) (hf:=fun h=>?_)<;>try exact prn)|refine Au ?_|refine Aq ?_|refine Ar ?_|refine A3 ?_|refine Aj Ab J J J J J J J (Ac Z) J ?_|refine Ae Ab J J J J J J J Z (Ac Z) J ?_|refine Ah Ab J J J J J J J J J J J J J (by simp[Ad];omega) ?_|refine Af Ab J J J J J J J J J J J J J J (by simp[Ad];omega) ?_|refine A8 Ab J J J J J (fun _=>rfl) (fun b hb=>?_)|refine As J J J J ?_|refine A4 ?_|(refine A5 J J J J J (ht:=fun h=>?_) (hf:=fun h=>?_)<;>try exact prn)|(refine A6 J J J J J (ht:=fun h=>?_) (hf:=fun h=>?_)<;>try exact prn)|refine Ai J J J J J ?_|refine An J J J J J J J (Ac Z) J ?_|refine Ao J J J J J J J Z (Ac Z) J ?_|refine A7 Ab J J J J J J J (c) J J ?_)
 exact AC J (Sub.of_eq J)
theorem SW (r:Reply) (hl:r.rows.length≤1000000):Ct Tryz.prog 26 [.agg (AA (AH r))] [] (.agg (AA (AH r))) []:=by
 have c:=Qc r.rows hl
 refine ct0 Ab Tryz.func26 J false J J ?_
 repeat'(first|refine Ak Ab J J J J J ?_|refine Ap Ab J J J ?_|refine A0 ?_|refine A9 ?_|refine Aw Ab J J ?_|(refine A1 J J J J J (ht:=fun h=>?_) (hf:=fun h=>?_)<;>try exact prn)|(refine A2 J J J J J (ht:=fun h=>?_) (hf:=fun h=>?_)<;>try exact prn)|refine Ag J J J J J ?_|(refine Al J (ht:=fun h=>?_) (hf:=fun h=>?_)<;>try exact prn)|refine Au ?_|refine Aq ?_|refine Ar ?_|refine A3 ?_|refine Aj Ab J J J J J J J (Ac Z) J ?_|refine Ae Ab J J J J J J J Z (Ac Z) J ?_|refine Ah Ab J J J J J J J J J J J J J (by simp[Ad];omega) ?_|refine Af Ab J J J J J J J J J J J J J J (by simp[Ad];omega) ?_|refine A8 Ab J J J J J (fun _=>rfl) (fun b hb=>?_)|refine As J J J J ?_|refine A4 ?_|(refine A5 J J J J J (ht:=fun h=>?_) (hf:=fun h=>?_)<;>try exact prn)|(refine A6 J J J J J (ht:=fun h=>?_) (hf:=fun h=>?_)<;>try exact prn)|refine Ai J J J J J ?_|refine An J J J J J J J (Ac Z) J ?_|refine Ao J J J J J J J Z (Ac Z) J ?_|refine A7 Ab J J J J J J J (c) J J ?_)
 exact AC J (Sub.of_eq J)
end Go.Proofs.YthjoclecnacdiaaGreatDoor
