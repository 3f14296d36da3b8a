/- Contracts of references: replies that may be. -/
import Derived.Test.YthjoclecnacdiaaGreatDoorZWm
import Derived.Test.YthjoclecnacdiaaGreatDoorZW1
set_option linter.unusedVariables false
set_option linter.unusedSimpArgs false
namespace Go.Proofs.YthjoclecnacdiaaGreatDoor
open Go.Am
attribute [local irreducible] Decidable.decide
set_option maxRecDepth 100000
set_option maxHeartbeats 1000000
theorem KS (n a b:Int):Ct Tryz.prog 45 [.t (.int .i64 n),.t (.int .i64 a),.t (.int .i64 b)] [] (.t (.bool (decide (a≤n∧n≤b)))) []:=by
 refine ct0 Ab Tryz.func45 J false J J ?_
 repeat'(first|refine Ak Ab J J J J J ?_|refine Ap Ab J J J ?_|refine A0 ?_|refine AP (fun _ _ _ _=>?_)|refine Aw Ab J J ?_|(refine A1 J J J J J (ht:=fun h=>?_) (hf:=fun h=>?_)<;>try exact prn)|(refine A2 J J J J J (ht:=fun h=>?_) (hf:=fun h=>?_)<;>try exact prn)|refine Ag J J J J J ?_|(refine Al J (ht:=fun h=>?_) (hf:=fun h=>?_)<;>try exact prn)|refine AG (fun _ _ _ _ _=>?_)|refine Aq ?_|refine Ar ?_|refine A3 ?_|refine Aj Ab J J J J J J J (Ac Z) J ?_|refine Ae Ab J J J J J J J Z (Ac Z) J ?_|refine Ah Ab J J J J J J J J J J J J J (by simp[Ad];omega) ?_|refine Af Ab J J J J J J J J J J J J J J (by simp[Ad];omega) ?_|refine BH Z ?_|refine BF Z ?_|refine BG Z J ?_|refine As J J J J ?_|refine A4 ?_|(refine A5 J J J J J (ht:=fun h=>?_) (hf:=fun h=>?_)<;>try exact prn)|(refine A6 J J J J J (ht:=fun h=>?_) (hf:=fun h=>?_)<;>try exact prn)|refine Ai J J J J J ?_|refine An J J J J J J J (Ac Z) J ?_)
 all_goals(refine AC J (BN ?_);(first|exact bI O|exact bT O|exact bF O))
theorem U7 (r:Reply):Ct Tryz.prog 44 [.agg (AA (AH r))] [] (.agg (AA (AH (B7 r)))) []:=by
 by_cases he:r.e=0
 ·by_cases h0:r.kind=0
  ·rw[show B7 r={C4 r.kind r.e with pid:=r.pid}by simp[B7,he,h0]]
   refine ct0 Ab Tryz.func44 J false J J ?_
   repeat'(first|refine Ak Ab J J J J J ?_|refine Ap Ab J J J ?_|refine A0 ?_|refine AP (fun _ _ _ _=>?_)|refine Aw Ab J J ?_|(refine A1 J J J J J (ht:=fun h=>?_) (hf:=fun h=>?_)<;>try exact prn)|(refine A2 J J J J J (ht:=fun h=>?_) (hf:=fun h=>?_)<;>try exact prn)|refine Ag J J J J J ?_|(refine Al J (ht:=fun h=>?_) (hf:=fun h=>?_)<;>try exact prn)|refine AG (fun _ _ _ _ _=>?_)|refine Aq ?_|refine Ar ?_|refine A3 ?_|refine Aj Ab J J J J J J J (Ac Z) J ?_|refine Ae Ab J J J J J J J Z (Ac Z) J ?_|refine Ah Ab J J J J J J J J J J J J J (by simp[Ad];omega) ?_|refine Af Ab J J J J J J J J J J J J J J (by simp[Ad];omega) ?_|refine BH Z ?_|refine BF Z ?_|refine BG Z J ?_|refine As J J J J ?_|refine A4 ?_|(refine A5 J J J J J (ht:=fun h=>?_) (hf:=fun h=>?_)<;>try exact prn)|(refine A6 J J J J J (ht:=fun h=>?_) (hf:=fun h=>?_)<;>try exact prn)|refine Ai J J J J J ?_|refine An J J J J J J J (Ac Z) J ?_)
   all_goals first|exact AC J (BM (show Dm _ _ from⟨Sub.refl _,Sub.refl _,Sub.refl _,Sub.refl _,Sub.refl _,AY,trivial⟩))|exact AC J (Sub.of_eq J)|(exfalso;(try dsimp only at*);omega)
  by_cases h1:r.kind=1
  ·rw[show B7 r={C4 r.kind r.e with pid:=r.pid,epoch:=r.epoch}by simp[B7,he,h1]]
   refine ct0 Ab Tryz.func44 J false J J ?_
   repeat'(first|refine Ak Ab J J J J J ?_|refine Ap Ab J J J ?_|refine A0 ?_|refine AP (fun _ _ _ _=>?_)|refine Aw Ab J J ?_|(refine A1 J J J J J (ht:=fun h=>?_) (hf:=fun h=>?_)<;>try exact prn)|(refine A2 J J J J J (ht:=fun h=>?_) (hf:=fun h=>?_)<;>try exact prn)|refine Ag J J J J J ?_|(refine Al J (ht:=fun h=>?_) (hf:=fun h=>?_)<;>try exact prn)|refine AG (fun _ _ _ _ _=>?_)|refine Aq ?_|refine Ar ?_|refine A3 ?_|refine Aj Ab J J J J J J J (Ac Z) J ?_|refine Ae Ab J J J J J J J Z (Ac Z) J ?_|refine Ah Ab J J J J J J J J J J J J J (by simp[Ad];omega) ?_|refine Af Ab J J J J J J J J J J J J J J (by simp[Ad];omega) ?_|refine BH Z ?_|refine BF Z ?_|refine BG Z J ?_|refine As J J J J ?_|refine A4 ?_|(refine A5 J J J J J (ht:=fun h=>?_) (hf:=fun h=>?_)<;>try exact prn)|(refine A6 J J J J J (ht:=fun h=>?_) (hf:=fun h=>?_)<;>try exact prn)|refine Ai J J J J J ?_|refine An J J J J J J J (Ac Z) J ?_)
   all_goals first|exact AC J (BM (show Dm _ _ from⟨Sub.refl _,Sub.refl _,Sub.refl _,Sub.refl _,Sub.refl _,AY,trivial⟩))|exact AC J (Sub.of_eq J)|(exfalso;(try dsimp only at*);omega)
  by_cases h2:r.kind=2∨r.kind=7
  ·rw[show B7 r={C4 r.kind r.e with offset:=r.offset}by simp[B7,he,h0,h1,h2]]
   refine ct0 Ab Tryz.func44 J false J J ?_
   repeat'(first|refine Ak Ab J J J J J ?_|refine Ap Ab J J J ?_|refine A0 ?_|refine AP (fun _ _ _ _=>?_)|refine Aw Ab J J ?_|(refine A1 J J J J J (ht:=fun h=>?_) (hf:=fun h=>?_)<;>try exact prn)|(refine A2 J J J J J (ht:=fun h=>?_) (hf:=fun h=>?_)<;>try exact prn)|refine Ag J J J J J ?_|(refine Al J (ht:=fun h=>?_) (hf:=fun h=>?_)<;>try exact prn)|refine AG (fun _ _ _ _ _=>?_)|refine Aq ?_|refine Ar ?_|refine A3 ?_|refine Aj Ab J J J J J J J (Ac Z) J ?_|refine Ae Ab J J J J J J J Z (Ac Z) J ?_|refine Ah Ab J J J J J J J J J J J J J (by simp[Ad];omega) ?_|refine Af Ab J J J J J J J J J J J J J J (by simp[Ad];omega) ?_|refine BH Z ?_|refine BF Z ?_|refine BG Z J ?_|refine As J J J J ?_|refine A4 ?_|(refine A5 J J J J J (ht:=fun h=>?_) (hf:=fun h=>?_)<;>try exact prn)|(refine A6 J J J J J (ht:=fun h=>?_) (hf:=fun h=>?_)<;>try exact prn)|refine Ai J J J J J ?_|refine An J J J J J J J (Ac Z) J ?_)
   all_goals first|exact AC J (BM (show Dm _ _ from⟨Sub.refl _,Sub.refl _,Sub.refl _,Sub.refl _,Sub.refl _,AY,trivial⟩))|exact AC J (Sub.of_eq J)|(exfalso;(try dsimp only at*);omega)
  by_cases h5:r.kind=5
  ·rw[show B7 r={C4 r.kind r.e with offset:=r.offset,rows:=r.rows}by simp[B7,he,h5]]
   refine ct0 Ab Tryz.func44 J false J J ?_
   repeat'(first|refine Ak Ab J J J J J ?_|refine Ap Ab J J J ?_|refine A0 ?_|refine AP (fun _ _ _ _=>?_)|refine Aw Ab J J ?_|(refine A1 J J J J J (ht:=fun h=>?_) (hf:=fun h=>?_)<;>try exact prn)|(refine A2 J J J J J (ht:=fun h=>?_) (hf:=fun h=>?_)<;>try exact prn)|refine Ag J J J J J ?_|(refine Al J (ht:=fun h=>?_) (hf:=fun h=>?_)<;>try exact prn)|refine AG (fun _ _ _ _ _=>?_)|refine Aq ?_|refine Ar ?_|refine A3 ?_|refine Aj Ab J J J J J J J (Ac Z) J ?_|refine Ae Ab J J J J J J J Z (Ac Z) J ?_|refine Ah Ab J J J J J J J J J J J J J (by simp[Ad];omega) ?_|refine Af Ab J J J J J J J J J J J J J J (by simp[Ad];omega) ?_|refine BH Z ?_|refine BF Z ?_|refine BG Z J ?_|refine As J J J J ?_|refine A4 ?_|(refine A5 J J J J J (ht:=fun h=>?_) (hf:=fun h=>?_)<;>try exact prn)|(refine A6 J J J J J (ht:=fun h=>?_) (hf:=fun h=>?_)<;>try exact prn)|refine Ai J J J J J ?_|refine An J J J J J J J (Ac Z) J ?_)
   all_goals first|exact AC J (BM (show Dm _ _ from⟨Sub.refl _,Sub.refl _,Sub.refl _,Sub.refl _,Sub.refl _,AY,trivial⟩))|exact AC J (Sub.of_eq J)|(exfalso;(try dsimp only at*);omega)
  ·rw[show B7 r=C4 r.kind r.e by simp[B7,he,h0,h1,h2,h5]]
   refine ct0 Ab Tryz.func44 J false J J ?_
   repeat'(first|refine Ak Ab J J J J J ?_|refine Ap Ab J J J ?_|refine A0 ?_|refine AP (fun _ _ _ _=>?_)|refine Aw Ab J J ?_|(refine A1 J J J J J (ht:=fun h=>?_) (hf:=fun h=>?_)<;>try exact prn)|(refine A2 J J J J J (ht:=fun h=>?_) (hf:=fun h=>?_)<;>try exact prn)|refine Ag J J J J J ?_|(refine Al J (ht:=fun h=>?_) (hf:=fun h=>?_)<;>try exact prn)|refine AG (fun _ _ _ _ _=>?_)|refine Aq ?_|refine Ar ?_|refine A3 ?_|refine Aj Ab J J J J J J J (Ac Z) J ?_|refine Ae Ab J J J J J J J Z (Ac Z) J ?_|refine Ah Ab J J J J J J J J J J J J J (by simp[Ad];omega) ?_|refine Af Ab J J J J J J J J J J J J J J (by simp[Ad];omega) ?_|refine BH Z ?_|refine BF Z ?_|refine BG Z J ?_|refine As J J J J ?_|refine A4 ?_|(refine A5 J J J J J (ht:=fun h=>?_) (hf:=fun h=>?_)<;>try exact prn)|(refine A6 J J J J J (ht:=fun h=>?_) (hf:=fun h=>?_)<;>try exact prn)|refine Ai J J J J J ?_|refine An J J J J J J J (Ac Z) J ?_)
   all_goals first|exact AC J (BM (show Dm _ _ from⟨Sub.refl _,Sub.refl _,Sub.refl _,Sub.refl _,Sub.refl _,AY,trivial⟩))|exact AC J (Sub.of_eq J)|(exfalso;(try dsimp only at*);omega)
 ·rw[show B7 r=C4 r.kind r.e by simp[B7,he]]
  refine ct0 Ab Tryz.func44 J false J J ?_
  repeat'(first|refine Ak Ab J J J J J ?_|refine Ap Ab J J J ?_|refine A0 ?_|refine AP (fun _ _ _ _=>?_)|refine Aw Ab J J ?_|(refine A1 J J J J J (ht:=fun h=>?_) (hf:=fun h=>?_)<;>try exact prn)|(refine A2 J J J J J (ht:=fun h=>?_) (hf:=fun h=>?_)<;>try exact prn)|refine Ag J J J J J ?_|(refine Al J (ht:=fun h=>?_) (hf:=fun h=>?_)<;>try exact prn)|refine AG (fun _ _ _ _ _=>?_)|refine Aq ?_|refine Ar ?_|refine A3 ?_|refine Aj Ab J J J J J J J (Ac Z) J ?_|refine Ae Ab J J J J J J J Z (Ac Z) J ?_|refine Ah Ab J J J J J J J J J J J J J (by simp[Ad];omega) ?_|refine Af Ab J J J J J J J J J J J J J J (by simp[Ad];omega) ?_|refine BH Z ?_|refine BF Z ?_|refine BG Z J ?_|refine As J J J J ?_|refine A4 ?_|(refine A5 J J J J J (ht:=fun h=>?_) (hf:=fun h=>?_)<;>try exact prn)|(refine A6 J J J J J (ht:=fun h=>?_) (hf:=fun h=>?_)<;>try exact prn)|refine Ai J J J J J ?_|refine An J J J J J J J (Ac Z) J ?_)
  all_goals first|exact AC J (BM (show Dm _ _ from⟨Sub.refl _,Sub.refl _,Sub.refl _,Sub.refl _,Sub.refl _,AY,trivial⟩))|exact AC J (Sub.of_eq J)|(exfalso;(try dsimp only at*);omega)
theorem O6 (a b:Reply) (ha:a.rows.length≤1000000):Ct Tryz.prog 13 [.agg (AA (AH a)),.agg (AA (AH b))] [] (.t (.bool (decide (a=b)))) []:=by
 have hla:(a.rows.map AK).length=a.rows.length:=List.length_map ..
 have hlb:(b.rows.map AK).length=b.rows.length:=List.length_map ..
 obtain⟨k1,e1,p1,q1,o1,r1⟩:=a
 obtain⟨k2,e2,p2,q2,o2,r2⟩:=b
 dsimp only at hla hlb ha
 by_cases hh:k1=k2∧e1=e2∧p1=p2∧q1=q2∧o1=o2∧r1.length=r2.length
 ·obtain⟨rfl,rfl,rfl,rfl,rfl,hl⟩:=hh
  rw[show decide ((⟨k1,e1,p1,q1,o1,r1⟩:Reply)=⟨k1,e1,p1,q1,o1,r2⟩)=decide (r1=r2)by simp]
  refine ct0 Ab Tryz.func13 J false J J ?_
  repeat'(first|refine Ak Ab J J J J J ?_|refine Ap Ab J J J ?_|refine A0 ?_|refine AP (fun _ _ _ _=>?_)|refine Aw Ab J J ?_|(refine A1 J J J J J (ht:=fun h=>?_) (hf:=fun h=>?_)<;>try exact prn)|(refine A2 J J J J J (ht:=fun h=>?_) (hf:=fun h=>?_)<;>try exact prn)|refine Ag J J J J J ?_|(refine Al J (ht:=fun h=>?_) (hf:=fun h=>?_)<;>try exact prn)|refine AG (fun _ _ _ _ _=>?_)|refine Aq ?_|refine Ar ?_|refine A3 ?_|refine Aj Ab J J J J J J J (Ac Z) J ?_|refine Ae Ab J J J J J J J Z (Ac Z) J ?_|refine Ah Ab J J J J J J J J J J J J J (by simp[Ad];omega) ?_|refine Af Ab J J J J J J J J J J J J J J (by simp[Ad];omega) ?_|refine BH Z ?_|refine BF Z ?_|refine BG Z J ?_|refine AD (id:=6) (m:=10) Ab U J J J J ?_|refine As J J J J ?_|refine A4 ?_|(refine A5 J J J J J (ht:=fun h=>?_) (hf:=fun h=>?_)<;>try exact prn)|(refine A6 J J J J J (ht:=fun h=>?_) (hf:=fun h=>?_)<;>try exact prn)|refine Ai J J J J J ?_|refine An J J J J J J J (Ac Z) J ?_)
  all_goals try(exfalso;simp only[AH]at*;omega)
  refine BC (ι:=Nat) (fun i=>i≤r1.length∧r1.take i=r2.take i) (fun i=>[(2,.ref 4 0),(3,.ref 6 0),(5,.t (.int .i64 i))]) (fun _=>[(6,.cells (AA (AH ⟨k1,e1,p1,q1,o1,r2⟩))),(4,.cells (AA (AH ⟨k1,e1,p1,q1,o1,r1⟩)))]) (fun i=>r1.length-i) 0 Y ?_ ?_
  ·exact Ce [] (Av J J (Av J J (Av J J AJ))) J
  rintro i ⟨hi,htk⟩
  by_cases hlt:i<r1.length
  ·have hr:r1[i]?=some r1[i]:=List.getElem?_eq_getElem hlt
   have hs:r2[i]?=some (r2[i]' O):=List.getElem?_eq_getElem _
   generalize r1[i]=r at hr
   generalize r2[i]' O=s at hs
   repeat'(first|refine Ak Ab J J J J J ?_|refine Ap Ab J J J ?_|refine A0 ?_|refine AP (fun _ _ _ _=>?_)|refine Aw Ab J J ?_|(refine A1 J J J J J (ht:=fun h=>?_) (hf:=fun h=>?_)<;>try exact prn)|(refine A2 J J J J J (ht:=fun h=>?_) (hf:=fun h=>?_)<;>try exact prn)|refine Ag J J J J J ?_|(refine Al J (ht:=fun h=>?_) (hf:=fun h=>?_)<;>try exact prn)|refine AG (fun _ _ _ _ _=>?_)|refine Aq ?_|refine Ar ?_|refine A3 ?_|refine Aj Ab J J J J J J J (Ac Z) J ?_|refine Ae Ab J J J J J J J Z (Ac Z) J ?_|refine Ah Ab J J J J J J J J J J J J J (by simp[Ad];omega) ?_|refine Af Ab J J J J J J J J J J J J J J (by simp[Ad];omega) ?_|refine BH Z ?_|refine BF Z ?_|refine BG Z J ?_|refine AD (id:=6) (m:=10) Ab U J J J J ?_|refine As J J J J ?_|refine A4 ?_|(refine A5 J J J J J (ht:=fun h=>?_) (hf:=fun h=>?_)<;>try exact prn)|(refine A6 J J J J J (ht:=fun h=>?_) (hf:=fun h=>?_)<;>try exact prn)|refine Ai J J J J J ?_|refine An J J J J J J J (Ac Z) J ?_)
   all_goals first
    |exact AC J (BN (bF (fun e=>by subst e;rw[hr]at hs;cases hs;simp_all)))
    |(have e:r=s:=by cases r;cases s;simp_all
      refine BB (i+1) ⟨hlt,IF hr hs htk e⟩ O [] (Av J J (Av J J (Av J ?_ AJ))) J
      rw[AW O O];rfl)
  ·repeat'(first|refine Ak Ab J J J J J ?_|refine Ap Ab J J J ?_|refine A0 ?_|refine AP (fun _ _ _ _=>?_)|refine Aw Ab J J ?_|(refine A1 J J J J J (ht:=fun h=>?_) (hf:=fun h=>?_)<;>try exact prn)|(refine A2 J J J J J (ht:=fun h=>?_) (hf:=fun h=>?_)<;>try exact prn)|refine Ag J J J J J ?_|(refine Al J (ht:=fun h=>?_) (hf:=fun h=>?_)<;>try exact prn)|refine AG (fun _ _ _ _ _=>?_)|refine Aq ?_|refine Ar ?_|refine A3 ?_|refine Aj Ab J J J J J J J (Ac Z) J ?_|refine Ae Ab J J J J J J J Z (Ac Z) J ?_|refine Ah Ab J J J J J J J J J J J J J (by simp[Ad];omega) ?_|refine Af Ab J J J J J J J J J J J J J J (by simp[Ad];omega) ?_|refine BH Z ?_|refine BF Z ?_|refine BG Z J ?_|refine AD (id:=6) (m:=10) Ab U J J J J ?_|refine As J J J J ?_|refine A4 ?_|(refine A5 J J J J J (ht:=fun h=>?_) (hf:=fun h=>?_)<;>try exact prn)|(refine A6 J J J J J (ht:=fun h=>?_) (hf:=fun h=>?_)<;>try exact prn)|refine Ai J J J J J ?_|refine An J J J J J J J (Ac Z) J ?_)
   exact AC J (BN (bT (KF hl O htk)))
 ·rw[decide_eq_false (show ¬((⟨k1,e1,p1,q1,o1,r1⟩:Reply)=⟨k2,e2,p2,q2,o2,r2⟩)from fun e=>by cases e;exact hh ⟨J,J,J,J,J,J⟩)]
  simp only[AH]
  refine ct0 Ab Tryz.func13 J false J J ?_
  repeat'(first|refine Ak Ab J J J J J ?_|refine Ap Ab J J J ?_|refine A0 ?_|refine AP (fun _ _ _ _=>?_)|refine Aw Ab J J ?_|(refine A1 J J J J J (ht:=fun h=>?_) (hf:=fun h=>?_)<;>try exact prn)|(refine A2 J J J J J (ht:=fun h=>?_) (hf:=fun h=>?_)<;>try exact prn)|refine Ag J J J J J ?_|(refine Al J (ht:=fun h=>?_) (hf:=fun h=>?_)<;>try exact prn)|refine AG (fun _ _ _ _ _=>?_)|refine Aq ?_|refine Ar ?_|refine A3 ?_|refine Aj Ab J J J J J J J (Ac Z) J ?_|refine Ae Ab J J J J J J J Z (Ac Z) J ?_|refine Ah Ab J J J J J J J J J J J J J (by simp[Ad];omega) ?_|refine Af Ab J J J J J J J J J J J J J J (by simp[Ad];omega) ?_|refine BH Z ?_|refine BF Z ?_|refine BG Z J ?_|refine AD (id:=6) (m:=10) Ab U J J J J ?_|refine As J J J J ?_|refine A4 ?_|(refine A5 J J J J J (ht:=fun h=>?_) (hf:=fun h=>?_)<;>try exact prn)|(refine A6 J J J J J (ht:=fun h=>?_) (hf:=fun h=>?_)<;>try exact prn)|refine Ai J J J J J ?_|refine An J J J J J J J (Ac Z) J ?_)
  all_goals first|exact AC J (Sub.of_eq J)|(exfalso;simp only[List.length_map]at*;omega)
theorem Yc (r:Reply) (hl:r.rows.length≤1000000) (h1:(0≤r.kind∧r.kind≤9)∧(0≤r.e∧r.e≤400)) (cb:Ct Tryz.prog 44 [.agg (AA (AH r))] [] (.agg (AA (AH (B7 r)))) []) (cs:Ct Tryz.prog 13 [.agg (AA (AH r)),.agg (AA (AH (B7 r)))] [] (.t (.bool true)) []) (he:r.e=0) (k5:r.kind=5) (hb:(0≤r.offset∧r.offset≤1048576)∧r.rows.length≤64):Ct Tryz.prog 27 [.agg (AA (AH r))] [] (.t (.bool (r.rows.all CE))) []:=by
 have hlm:(r.rows.map AK).length=r.rows.length:=List.length_map ..
 have hb1:decide (0≤r.offset∧r.offset≤1048576)=true:=decide_eq_true hb.1
 have cw:=KS r.offset 0 1048576
 rw[hb1]at cw
 refine ct0 Ab Tryz.func27 J false J J ?_
 repeat'(first|refine Ak Ab J J J J J ?_|refine Ap Ab J J J ?_|refine A0 ?_|refine AP (fun _ _ _ _=>?_)|refine Aw Ab J J ?_|(refine A1 J J J J J (ht:=fun h=>?_) (hf:=fun h=>?_)<;>try exact prn)|(refine A2 J J J J J (ht:=fun h=>?_) (hf:=fun h=>?_)<;>try exact prn)|refine Ag J J J J J ?_|(refine Al J (ht:=fun h=>?_) (hf:=fun h=>?_)<;>try exact prn)|refine AG (fun _ _ _ _ _=>?_)|refine Aq ?_|refine Ar ?_|refine A3 ?_|refine Aj Ab J J J J J J J (Ac Z) J ?_|refine Ae Ab J J J J J J J Z (Ac Z) J ?_|refine Ah Ab J J J J J J J J J J J J J (by simp[Ad];omega) ?_|refine Af Ab J J J J J J J J J J J J J J (by simp[Ad];omega) ?_|refine BH Z ?_|refine BF Z ?_|refine BG Z J ?_|refine AD (id:=1) (m:=22) Ab U J J J J ?_|refine As J J J J ?_|refine A4 ?_|(refine A5 J J J J J (ht:=fun h=>?_) (hf:=fun h=>?_)<;>try exact prn)|(refine A6 J J J J J (ht:=fun h=>?_) (hf:=fun h=>?_)<;>try exact prn)|refine Ai J J J J J ?_|refine An J J J J J J J (Ac Z) J ?_|refine A7 Ab J J J J J J J (cb) J J ?_|refine A7 Ab J J J J J J J (cs) J J ?_|refine Bv J J J J J (cb) J J ?_|refine Bv J J J J J (cs) J J ?_|refine A7 Ab J J J J J J J (cw) J J ?_)
 all_goals try(exfalso;omega)
 refine BC (ι:=Nat) (fun i=>i≤r.rows.length∧(r.rows.take i).all CE=true) (fun i=>[(1,.ref 2 0),(3,.t (.int .i64 i))]) (fun _=>[(2,.cells (AA (AH r)))]) (fun i=>r.rows.length-i) 0 Y ?_ ?_
 ·exact Ce [] (Av J J (Av J J AJ)) J
 rintro i ⟨hi,hall⟩
 by_cases hlt:i<r.rows.length
 ·have hr:r.rows[i]?=some r.rows[i]:=List.getElem?_eq_getElem hlt
  generalize r.rows[i]=x at hr
  have hx:(r.rows.take (i+1)).all CE=CE x:=by rw[BK hr,List.all_append,hall];simp
  have cm:=QC x
  have cw:=KS x.offset (-1) 1048576
  have hf:CE x=false→r.rows.all CE=false:=fun e=>by
   rw[List.all_eq_false];exact⟨x,List.mem_of_getElem? hr,by rw[e];decide⟩
  by_cases hw: -1≤x.offset∧x.offset≤1048576
  ·rw[decide_eq_true hw]at cw
   cases hm:LB x with
   |true=>
    rw[hm]at cm
    repeat'(first|refine Ak Ab J J J J J ?_|refine Ap Ab J J J ?_|refine A0 ?_|refine AP (fun _ _ _ _=>?_)|refine Aw Ab J J ?_|(refine A1 J J J J J (ht:=fun h=>?_) (hf:=fun h=>?_)<;>try exact prn)|(refine A2 J J J J J (ht:=fun h=>?_) (hf:=fun h=>?_)<;>try exact prn)|refine Ag J J J J J ?_|(refine Al J (ht:=fun h=>?_) (hf:=fun h=>?_)<;>try exact prn)|refine AG (fun _ _ _ _ _=>?_)|refine Aq ?_|refine Ar ?_|refine A3 ?_|refine Aj Ab J J J J J J J (Ac Z) J ?_|refine Ae Ab J J J J J J J Z (Ac Z) J ?_|refine Ah Ab J J J J J J J J J J J J J (by simp[Ad];omega) ?_|refine Af Ab J J J J J J J J J J J J J J (by simp[Ad];omega) ?_|refine BH Z ?_|refine BF Z ?_|refine BG Z J ?_|refine AD (id:=1) (m:=22) Ab U J J J J ?_|refine As J J J J ?_|refine A4 ?_|(refine A5 J J J J J (ht:=fun h=>?_) (hf:=fun h=>?_)<;>try exact prn)|(refine A6 J J J J J (ht:=fun h=>?_) (hf:=fun h=>?_)<;>try exact prn)|refine Ai J J J J J ?_|refine An J J J J J J J (Ac Z) J ?_|refine A7 Ab J J J J J J J (cm) J J ?_|refine A7 Ab J J J J J J J (cw) J J ?_)
    refine BB (i+1) ⟨hlt,hx.trans (by simp only[CE,hm,Bool.true_and];exact decide_eq_true hw)⟩ O [] (Av J J (Av J (by rw[AW O O];rfl) AJ)) J
   |false=>
    rw[hm]at cm
    have hff:=hf (by simp only[CE,hm,Bool.false_and])
    repeat'(first|refine Ak Ab J J J J J ?_|refine Ap Ab J J J ?_|refine A0 ?_|refine AP (fun _ _ _ _=>?_)|refine Aw Ab J J ?_|(refine A1 J J J J J (ht:=fun h=>?_) (hf:=fun h=>?_)<;>try exact prn)|(refine A2 J J J J J (ht:=fun h=>?_) (hf:=fun h=>?_)<;>try exact prn)|refine Ag J J J J J ?_|(refine Al J (ht:=fun h=>?_) (hf:=fun h=>?_)<;>try exact prn)|refine AG (fun _ _ _ _ _=>?_)|refine Aq ?_|refine Ar ?_|refine A3 ?_|refine Aj Ab J J J J J J J (Ac Z) J ?_|refine Ae Ab J J J J J J J Z (Ac Z) J ?_|refine Ah Ab J J J J J J J J J J J J J (by simp[Ad];omega) ?_|refine Af Ab J J J J J J J J J J J J J J (by simp[Ad];omega) ?_|refine BH Z ?_|refine BF Z ?_|refine BG Z J ?_|refine AD (id:=1) (m:=22) Ab U J J J J ?_|refine As J J J J ?_|refine A4 ?_|(refine A5 J J J J J (ht:=fun h=>?_) (hf:=fun h=>?_)<;>try exact prn)|(refine A6 J J J J J (ht:=fun h=>?_) (hf:=fun h=>?_)<;>try exact prn)|refine Ai J J J J J ?_|refine An J J J J J J J (Ac Z) J ?_|refine A7 Ab J J J J J J J (cm) J J ?_|refine A7 Ab J J J J J J J (cw) J J ?_)
    exact AC J (BN hff.symm)
  ·rw[decide_eq_false hw]at cw
   have hff:=hf (by simp only[CE,decide_eq_false hw,Bool.and_false])
   repeat'(first|refine Ak Ab J J J J J ?_|refine Ap Ab J J J ?_|refine A0 ?_|refine AP (fun _ _ _ _=>?_)|refine Aw Ab J J ?_|(refine A1 J J J J J (ht:=fun h=>?_) (hf:=fun h=>?_)<;>try exact prn)|(refine A2 J J J J J (ht:=fun h=>?_) (hf:=fun h=>?_)<;>try exact prn)|refine Ag J J J J J ?_|(refine Al J (ht:=fun h=>?_) (hf:=fun h=>?_)<;>try exact prn)|refine AG (fun _ _ _ _ _=>?_)|refine Aq ?_|refine Ar ?_|refine A3 ?_|refine Aj Ab J J J J J J J (Ac Z) J ?_|refine Ae Ab J J J J J J J Z (Ac Z) J ?_|refine Ah Ab J J J J J J J J J J J J J (by simp[Ad];omega) ?_|refine Af Ab J J J J J J J J J J J J J J (by simp[Ad];omega) ?_|refine BH Z ?_|refine BF Z ?_|refine BG Z J ?_|refine AD (id:=1) (m:=22) Ab U J J J J ?_|refine As J J J J ?_|refine A4 ?_|(refine A5 J J J J J (ht:=fun h=>?_) (hf:=fun h=>?_)<;>try exact prn)|(refine A6 J J J J J (ht:=fun h=>?_) (hf:=fun h=>?_)<;>try exact prn)|refine Ai J J J J J ?_|refine An J J J J J J J (Ac Z) J ?_|refine A7 Ab J J J J J J J (cm) J J ?_|refine A7 Ab J J J J J J J (cw) J J ?_)
   all_goals exact AC J (BN hff.symm)
 ·repeat'(first|refine Ak Ab J J J J J ?_|refine Ap Ab J J J ?_|refine A0 ?_|refine AP (fun _ _ _ _=>?_)|refine Aw Ab J J ?_|(refine A1 J J J J J (ht:=fun h=>?_) (hf:=fun h=>?_)<;>try exact prn)|(refine A2 J J J J J (ht:=fun h=>?_) (hf:=fun h=>?_)<;>try exact prn)|refine Ag J J J J J ?_|(refine Al J (ht:=fun h=>?_) (hf:=fun h=>?_)<;>try exact prn)|refine AG (fun _ _ _ _ _=>?_)|refine Aq ?_|refine Ar ?_|refine A3 ?_|refine Aj Ab J J J J J J J (Ac Z) J ?_|refine Ae Ab J J J J J J J Z (Ac Z) J ?_|refine Ah Ab J J J J J J J J J J J J J (by simp[Ad];omega) ?_|refine Af Ab J J J J J J J J J J J J J J (by simp[Ad];omega) ?_|refine BH Z ?_|refine BF Z ?_|refine BG Z J ?_|refine AD (id:=1) (m:=22) Ab U J J J J ?_|refine As J J J J ?_|refine A4 ?_|(refine A5 J J J J J (ht:=fun h=>?_) (hf:=fun h=>?_)<;>try exact prn)|(refine A6 J J J J J (ht:=fun h=>?_) (hf:=fun h=>?_)<;>try exact prn)|refine Ai J J J J J ?_|refine An J J J J J J J (Ac Z) J ?_)
  refine AC J (BN ?_)
  rw[List.take_of_length_le O]at hall
  exact hall.symm
set_option maxHeartbeats 4000000 in
theorem V9 (r:Reply) (hl:r.rows.length≤1000000):Ct Tryz.prog 27 [.agg (AA (AH r))] [] (.t (.bool (Bt r))) []:=by
 have hlm:(r.rows.map AK).length=r.rows.length:=List.length_map ..
 have cb:=U7 r
 have cs:=O6 r (B7 r) hl
 by_cases h1:(0≤r.kind∧r.kind≤9)∧(0≤r.e∧r.e≤400)
 ·by_cases h2:r=B7 r
  ·rw[decide_eq_true h2]at cs
   rw[show Bt r=CI r by simp only[Bt];rw[decide_eq_true h1,decide_eq_true h2];rfl]
   by_cases he:r.e=0
   ·by_cases k0:r.kind=0∨r.kind=1
    ·rw[show CI r=decide ((1≤r.pid∧r.pid≤8)∧(0≤r.epoch∧r.epoch≤100))by simp only[CI];rw[if_neg O,if_pos k0]]
     refine ct0 Ab Tryz.func27 J false J J ?_
     repeat'(first|refine Ak Ab J J J J J ?_|refine Ap Ab J J J ?_|refine A0 ?_|refine AP (fun _ _ _ _=>?_)|refine Aw Ab J J ?_|(refine A1 J J J J J (ht:=fun h=>?_) (hf:=fun h=>?_)<;>try exact prn)|(refine A2 J J J J J (ht:=fun h=>?_) (hf:=fun h=>?_)<;>try exact prn)|refine Ag J J J J J ?_|(refine Al J (ht:=fun h=>?_) (hf:=fun h=>?_)<;>try exact prn)|refine AG (fun _ _ _ _ _=>?_)|refine Aq ?_|refine Ar ?_|refine A3 ?_|refine Aj Ab J J J J J J J (Ac Z) J ?_|refine Ae Ab J J J J J J J Z (Ac Z) J ?_|refine Ah Ab J J J J J J J J J J J J J (by simp[Ad];omega) ?_|refine Af Ab J J J J J J J J J J J J J J (by simp[Ad];omega) ?_|refine BH Z ?_|refine BF Z ?_|refine BG Z J ?_|refine AD (id:=1) (m:=22) Ab U J J J J ?_|refine As J J J J ?_|refine A4 ?_|(refine A5 J J J J J (ht:=fun h=>?_) (hf:=fun h=>?_)<;>try exact prn)|(refine A6 J J J J J (ht:=fun h=>?_) (hf:=fun h=>?_)<;>try exact prn)|refine Ai J J J J J ?_|refine An J J J J J J J (Ac Z) J ?_|refine A7 Ab J J J J J J J (cb) J J ?_|refine A7 Ab J J J J J J J (cs) J J ?_|refine Bv J J J J J (cb) J J ?_|refine Bv J J J J J (cs) J J ?_|refine A7 Ab J J J J J J J (KS _ _ _) J J ?_)
     all_goals first|(exfalso;omega)|(refine AC J (BN ?_);(first|exact bI O|exact bT O|exact bF O))
    by_cases k2:r.kind=2∨r.kind=7
    ·rw[show CI r=decide (-1≤r.offset∧r.offset≤1048576)by simp only[CI];rw[if_neg O,if_neg k0,if_pos k2]]
     refine ct0 Ab Tryz.func27 J false J J ?_
     repeat'(first|refine Ak Ab J J J J J ?_|refine Ap Ab J J J ?_|refine A0 ?_|refine AP (fun _ _ _ _=>?_)|refine Aw Ab J J ?_|(refine A1 J J J J J (ht:=fun h=>?_) (hf:=fun h=>?_)<;>try exact prn)|(refine A2 J J J J J (ht:=fun h=>?_) (hf:=fun h=>?_)<;>try exact prn)|refine Ag J J J J J ?_|(refine Al J (ht:=fun h=>?_) (hf:=fun h=>?_)<;>try exact prn)|refine AG (fun _ _ _ _ _=>?_)|refine Aq ?_|refine Ar ?_|refine A3 ?_|refine Aj Ab J J J J J J J (Ac Z) J ?_|refine Ae Ab J J J J J J J Z (Ac Z) J ?_|refine Ah Ab J J J J J J J J J J J J J (by simp[Ad];omega) ?_|refine Af Ab J J J J J J J J J J J J J J (by simp[Ad];omega) ?_|refine BH Z ?_|refine BF Z ?_|refine BG Z J ?_|refine AD (id:=1) (m:=22) Ab U J J J J ?_|refine As J J J J ?_|refine A4 ?_|(refine A5 J J J J J (ht:=fun h=>?_) (hf:=fun h=>?_)<;>try exact prn)|(refine A6 J J J J J (ht:=fun h=>?_) (hf:=fun h=>?_)<;>try exact prn)|refine Ai J J J J J ?_|refine An J J J J J J J (Ac Z) J ?_|refine A7 Ab J J J J J J J (cb) J J ?_|refine A7 Ab J J J J J J J (cs) J J ?_|refine Bv J J J J J (cb) J J ?_|refine Bv J J J J J (cs) J J ?_|refine A7 Ab J J J J J J J (KS _ _ _) J J ?_)
     all_goals first|(exfalso;omega)|exact AC J (Sub.of_eq J)
    by_cases k5:r.kind=5
    ·rw[show CI r=(decide ((0≤r.offset∧r.offset≤1048576)∧r.rows.length≤64)&&r.rows.all CE)by simp only[CI];rw[if_neg O,if_neg k0,if_neg k2,if_pos k5]]
     by_cases hb:(0≤r.offset∧r.offset≤1048576)∧r.rows.length≤64
     ·rw[decide_eq_true hb,Bool.true_and]
      exact Yc r hl h1 cb cs he k5 hb
     ·rw[decide_eq_false hb,Bool.false_and]
      refine ct0 Ab Tryz.func27 J false J J ?_
      repeat'(first|refine Ak Ab J J J J J ?_|refine Ap Ab J J J ?_|refine A0 ?_|refine AP (fun _ _ _ _=>?_)|refine Aw Ab J J ?_|(refine A1 J J J J J (ht:=fun h=>?_) (hf:=fun h=>?_)<;>try exact prn)|(refine A2 J J J J J (ht:=fun h=>?_) (hf:=fun h=>?_)<;>try exact prn)|refine Ag J J J J J ?_|(refine Al J (ht:=fun h=>?_) (hf:=fun h=>?_)<;>try exact prn)|refine AG (fun _ _ _ _ _=>?_)|refine Aq ?_|refine Ar ?_|refine A3 ?_|refine Aj Ab J J J J J J J (Ac Z) J ?_|refine Ae Ab J J J J J J J Z (Ac Z) J ?_|refine Ah Ab J J J J J J J J J J J J J (by simp[Ad];omega) ?_|refine Af Ab J J J J J J J J J J J J J J (by simp[Ad];omega) ?_|refine BH Z ?_|refine BF Z ?_|refine BG Z J ?_|refine AD (id:=1) (m:=22) Ab U J J J J ?_|refine As J J J J ?_|refine A4 ?_|(refine A5 J J J J J (ht:=fun h=>?_) (hf:=fun h=>?_)<;>try exact prn)|(refine A6 J J J J J (ht:=fun h=>?_) (hf:=fun h=>?_)<;>try exact prn)|refine Ai J J J J J ?_|refine An J J J J J J J (Ac Z) J ?_|refine A7 Ab J J J J J J J (cb) J J ?_|refine A7 Ab J J J J J J J (cs) J J ?_|refine Bv J J J J J (cb) J J ?_|refine Bv J J J J J (cs) J J ?_|refine A7 Ab J J J J J J J (KS _ _ _) J J ?_)
      all_goals first
       |exact AC J (Sub.of_eq J)
       |(exfalso;simp only[decide_eq_true_eq,decide_eq_false_iff_not,Bool.not_eq_true',Bool.not_eq_false',Bool.not_eq_true,Bool.not_eq_false]at*;omega)
    ·rw[show CI r=true by simp only[CI];rw[if_neg O,if_neg k0,if_neg k2,if_neg k5]]
     refine ct0 Ab Tryz.func27 J false J J ?_
     repeat'(first|refine Ak Ab J J J J J ?_|refine Ap Ab J J J ?_|refine A0 ?_|refine AP (fun _ _ _ _=>?_)|refine Aw Ab J J ?_|(refine A1 J J J J J (ht:=fun h=>?_) (hf:=fun h=>?_)<;>try exact prn)|(refine A2 J J J J J (ht:=fun h=>?_) (hf:=fun h=>?_)<;>try exact prn)|refine Ag J J J J J ?_|(refine Al J (ht:=fun h=>?_) (hf:=fun h=>?_)<;>try exact prn)|refine AG (fun _ _ _ _ _=>?_)|refine Aq ?_|refine Ar ?_|refine A3 ?_|refine Aj Ab J J J J J J J (Ac Z) J ?_|refine Ae Ab J J J J J J J Z (Ac Z) J ?_|refine Ah Ab J J J J J J J J J J J J J (by simp[Ad];omega) ?_|refine Af Ab J J J J J J J J J J J J J J (by simp[Ad];omega) ?_|refine BH Z ?_|refine BF Z ?_|refine BG Z J ?_|refine AD (id:=1) (m:=22) Ab U J J J J ?_|refine As J J J J ?_|refine A4 ?_|(refine A5 J J J J J (ht:=fun h=>?_) (hf:=fun h=>?_)<;>try exact prn)|(refine A6 J J J J J (ht:=fun h=>?_) (hf:=fun h=>?_)<;>try exact prn)|refine Ai J J J J J ?_|refine An J J J J J J J (Ac Z) J ?_|refine A7 Ab J J J J J J J (cb) J J ?_|refine A7 Ab J J J J J J J (cs) J J ?_|refine Bv J J J J J (cb) J J ?_|refine Bv J J J J J (cs) J J ?_)
     all_goals first|(exfalso;omega)|exact AC J (Sub.of_eq J)
   ·rw[show CI r=true by simp only[CI];rw[if_pos he]]
    refine ct0 Ab Tryz.func27 J false J J ?_
    repeat'(first|refine Ak Ab J J J J J ?_|refine Ap Ab J J J ?_|refine A0 ?_|refine AP (fun _ _ _ _=>?_)|refine Aw Ab J J ?_|(refine A1 J J J J J (ht:=fun h=>?_) (hf:=fun h=>?_)<;>try exact prn)|(refine A2 J J J J J (ht:=fun h=>?_) (hf:=fun h=>?_)<;>try exact prn)|refine Ag J J J J J ?_|(refine Al J (ht:=fun h=>?_) (hf:=fun h=>?_)<;>try exact prn)|refine AG (fun _ _ _ _ _=>?_)|refine Aq ?_|refine Ar ?_|refine A3 ?_|refine Aj Ab J J J J J J J (Ac Z) J ?_|refine Ae Ab J J J J J J J Z (Ac Z) J ?_|refine Ah Ab J J J J J J J J J J J J J (by simp[Ad];omega) ?_|refine Af Ab J J J J J J J J J J J J J J (by simp[Ad];omega) ?_|refine BH Z ?_|refine BF Z ?_|refine BG Z J ?_|refine AD (id:=1) (m:=22) Ab U J J J J ?_|refine As J J J J ?_|refine A4 ?_|(refine A5 J J J J J (ht:=fun h=>?_) (hf:=fun h=>?_)<;>try exact prn)|(refine A6 J J J J J (ht:=fun h=>?_) (hf:=fun h=>?_)<;>try exact prn)|refine Ai J J J J J ?_|refine An J J J J J J J (Ac Z) J ?_|refine A7 Ab J J J J J J J (cb) J J ?_|refine A7 Ab J J J J J J J (cs) J J ?_|refine Bv J J J J J (cb) J J ?_|refine Bv J J J J J (cs) J J ?_)
    all_goals first|(exfalso;omega)|exact AC J (Sub.of_eq J)
  ·rw[decide_eq_false h2]at cs
   rw[show Bt r=false by simp only[Bt];rw[decide_eq_false h2];simp]
   refine ct0 Ab Tryz.func27 J false J J ?_
   repeat'(first|refine Ak Ab J J J J J ?_|refine Ap Ab J J J ?_|refine A0 ?_|refine AP (fun _ _ _ _=>?_)|refine Aw Ab J J ?_|(refine A1 J J J J J (ht:=fun h=>?_) (hf:=fun h=>?_)<;>try exact prn)|(refine A2 J J J J J (ht:=fun h=>?_) (hf:=fun h=>?_)<;>try exact prn)|refine Ag J J J J J ?_|(refine Al J (ht:=fun h=>?_) (hf:=fun h=>?_)<;>try exact prn)|refine AG (fun _ _ _ _ _=>?_)|refine Aq ?_|refine Ar ?_|refine A3 ?_|refine Aj Ab J J J J J J J (Ac Z) J ?_|refine Ae Ab J J J J J J J Z (Ac Z) J ?_|refine Ah Ab J J J J J J J J J J J J J (by simp[Ad];omega) ?_|refine Af Ab J J J J J J J J J J J J J J (by simp[Ad];omega) ?_|refine BH Z ?_|refine BF Z ?_|refine BG Z J ?_|refine AD (id:=1) (m:=22) Ab U J J J J ?_|refine As J J J J ?_|refine A4 ?_|(refine A5 J J J J J (ht:=fun h=>?_) (hf:=fun h=>?_)<;>try exact prn)|(refine A6 J J J J J (ht:=fun h=>?_) (hf:=fun h=>?_)<;>try exact prn)|refine Ai J J J J J ?_|refine An J J J J J J J (Ac Z) J ?_|refine A7 Ab J J J J J J J (cb) J J ?_|refine A7 Ab J J J J J J J (cs) J J ?_|refine Bv J J J J J (cb) J J ?_|refine Bv J J J J J (cs) J J ?_)
   all_goals first|(exfalso;omega)|exact AC J (Sub.of_eq J)
 ·rw[show Bt r=false by simp only[Bt];rw[decide_eq_false h1];simp]
  refine ct0 Ab Tryz.func27 J false J J ?_
  repeat'(first|refine Ak Ab J J J J J ?_|refine Ap Ab J J J ?_|refine A0 ?_|refine AP (fun _ _ _ _=>?_)|refine Aw Ab J J ?_|(refine A1 J J J J J (ht:=fun h=>?_) (hf:=fun h=>?_)<;>try exact prn)|(refine A2 J J J J J (ht:=fun h=>?_) (hf:=fun h=>?_)<;>try exact prn)|refine Ag J J J J J ?_|(refine Al J (ht:=fun h=>?_) (hf:=fun h=>?_)<;>try exact prn)|refine AG (fun _ _ _ _ _=>?_)|refine Aq ?_|refine Ar ?_|refine A3 ?_|refine Aj Ab J J J J J J J (Ac Z) J ?_|refine Ae Ab J J J J J J J Z (Ac Z) J ?_|refine Ah Ab J J J J J J J J J J J J J (by simp[Ad];omega) ?_|refine Af Ab J J J J J J J J J J J J J J (by simp[Ad];omega) ?_|refine BH Z ?_|refine BF Z ?_|refine BG Z J ?_|refine AD (id:=1) (m:=22) Ab U J J J J ?_|refine As J J J J ?_|refine A4 ?_|(refine A5 J J J J J (ht:=fun h=>?_) (hf:=fun h=>?_)<;>try exact prn)|(refine A6 J J J J J (ht:=fun h=>?_) (hf:=fun h=>?_)<;>try exact prn)|refine Ai J J J J J ?_|refine An J J J J J J J (Ac Z) J ?_|refine A7 Ab J J J J J J J (cb) J J ?_|refine A7 Ab J J J J J J J (cs) J J ?_|refine Bv J J J J J (cb) J J ?_|refine Bv J J J J J (cs) J J ?_)
  all_goals first|(exfalso;omega)|exact AC J (Sub.of_eq J)
end Go.Proofs.YthjoclecnacdiaaGreatDoor
