/- Contracts of the program: replies. -/
import Derived.Test.YthjoclecnacdiaaGreatDoorZM9
import Derived.Test.YthjoclecnacdiaaGreatDoorZM10
import Derived.Test.YthjoclecnacdiaaGreatDoorZW1
import Derived.Test.YthjoclecnacdiaaGreatDoorZJ3
import Derived.Test.YthjoclecnacdiaaGreatDoorZPf
set_option linter.unusedVariables false
set_option linter.unusedSimpArgs false
namespace Go.Proofs.YthjoclecnacdiaaGreatDoor
open Go.Am
attribute [local irreducible] Decidable.decide
set_option maxRecDepth 100000
set_option maxHeartbeats 1000000
theorem M9 (n a b:Int):Ct Tryz.prog 59 [.t (.int .i64 n),.t (.int .i64 a),.t (.int .i64 b)] [] (.t (.bool (decide (a≤n∧n≤b)))) []:=by
 refine ct0 Ab Tryz.func59 J false J J ?_
 repeat'(first|refine Ak Ab J J J J J ?_|refine Ap Ab J J J ?_|refine A0 ?_|refine A9 ?_|refine Aw Ab J J ?_|(refine A1 J J J J J (ht:=fun h=>?_) (hf:=fun h=>?_)<;>try exact prn)|(refine A2 J J J J J (ht:=fun h=>?_) (hf:=fun h=>?_)<;>try exact prn)|refine Ag J J J J J ?_|(refine Al J (ht:=fun h=>?_) (hf:=fun h=>?_)<;>try exact prn)|refine Au ?_|refine Aq ?_|refine Ar ?_|refine A3 ?_|refine Aj Ab J J J J J J J (Ac Z) J ?_|refine Ae Ab J J J J J J J Z (Ac Z) J ?_|refine Ah Ab J J J J J J J J J J J J J (by simp[Ad];omega) ?_|refine Af Ab J J J J J J J J J J J J J J (by simp[Ad];omega) ?_|refine A8 Ab J J J J J (fun _=>rfl) (fun b hb=>?_)|refine As J J J J ?_|refine A4 ?_|(refine A5 J J J J J (ht:=fun h=>?_) (hf:=fun h=>?_)<;>try exact prn)|(refine A6 J J J J J (ht:=fun h=>?_) (hf:=fun h=>?_)<;>try exact prn)|refine Ai J J J J J ?_|refine An J J J J J J J (Ac Z) J ?_|refine Ao J J J J J J J Z (Ac Z) J ?_)
 all_goals(refine AC J (BN ?_);(try dsimp only at*)<;>(first|exact bI O|exact bT O|exact bF O))
theorem XJ (n a b:Int):Ct Tryz.prog 39 [.t (.int .i8 n),.t (.int .i8 a),.t (.int .i8 b)] [] (.t (.bool (decide (a≤n∧n≤b)))) []:=by
 refine ct0 Ab Tryz.func39 J false J J ?_
 repeat'(first|refine Ak Ab J J J J J ?_|refine Ap Ab J J J ?_|refine A0 ?_|refine A9 ?_|refine Aw Ab J J ?_|(refine A1 J J J J J (ht:=fun h=>?_) (hf:=fun h=>?_)<;>try exact prn)|(refine A2 J J J J J (ht:=fun h=>?_) (hf:=fun h=>?_)<;>try exact prn)|refine Ag J J J J J ?_|(refine Al J (ht:=fun h=>?_) (hf:=fun h=>?_)<;>try exact prn)|refine Au ?_|refine Aq ?_|refine Ar ?_|refine A3 ?_|refine Aj Ab J J J J J J J (Ac Z) J ?_|refine Ae Ab J J J J J J J Z (Ac Z) J ?_|refine Ah Ab J J J J J J J J J J J J J (by simp[Ad];omega) ?_|refine Af Ab J J J J J J J J J J J J J J (by simp[Ad];omega) ?_|refine A8 Ab J J J J J (fun _=>rfl) (fun b hb=>?_)|refine As J J J J ?_|refine A4 ?_|(refine A5 J J J J J (ht:=fun h=>?_) (hf:=fun h=>?_)<;>try exact prn)|(refine A6 J J J J J (ht:=fun h=>?_) (hf:=fun h=>?_)<;>try exact prn)|refine Ai J J J J J ?_|refine An J J J J J J J (Ac Z) J ?_|refine Ao J J J J J J J Z (Ac Z) J ?_)
 all_goals(refine AC J (BN ?_);(try dsimp only at*)<;>(first|exact bI O|exact bT O|exact bF O))
theorem XI (n a b:Int):Ct Tryz.prog 40 [.t (.int .i64 n),.t (.int .i64 a),.t (.int .i64 b)] [] (.t (.bool (decide (a≤n∧n≤b)))) []:=by
 refine ct0 Ab Tryz.func40 J false J J ?_
 repeat'(first|refine Ak Ab J J J J J ?_|refine Ap Ab J J J ?_|refine A0 ?_|refine A9 ?_|refine Aw Ab J J ?_|(refine A1 J J J J J (ht:=fun h=>?_) (hf:=fun h=>?_)<;>try exact prn)|(refine A2 J J J J J (ht:=fun h=>?_) (hf:=fun h=>?_)<;>try exact prn)|refine Ag J J J J J ?_|(refine Al J (ht:=fun h=>?_) (hf:=fun h=>?_)<;>try exact prn)|refine Au ?_|refine Aq ?_|refine Ar ?_|refine A3 ?_|refine Aj Ab J J J J J J J (Ac Z) J ?_|refine Ae Ab J J J J J J J Z (Ac Z) J ?_|refine Ah Ab J J J J J J J J J J J J J (by simp[Ad];omega) ?_|refine Af Ab J J J J J J J J J J J J J J (by simp[Ad];omega) ?_|refine A8 Ab J J J J J (fun _=>rfl) (fun b hb=>?_)|refine As J J J J ?_|refine A4 ?_|(refine A5 J J J J J (ht:=fun h=>?_) (hf:=fun h=>?_)<;>try exact prn)|(refine A6 J J J J J (ht:=fun h=>?_) (hf:=fun h=>?_)<;>try exact prn)|refine Ai J J J J J ?_|refine An J J J J J J J (Ac Z) J ?_|refine Ao J J J J J J J Z (Ac Z) J ?_)
 all_goals(refine AC J (BN ?_);(try dsimp only at*)<;>(first|exact bI O|exact bT O|exact bF O))
theorem Qh (r:Row):Ct Tryz.prog 61 [.agg (AA (AK r))] [] (.t (.bool (CE r))) []:=by
 refine ct0 Ab Tryz.func61 J false J J ?_
 repeat'(first|refine Ak Ab J J J J J ?_|refine Ap Ab J J J ?_|refine A0 ?_|refine A9 ?_|refine Aw Ab J J ?_|(refine A1 J J J J J (ht:=fun h=>?_) (hf:=fun h=>?_)<;>try exact prn)|(refine A2 J J J J J (ht:=fun h=>?_) (hf:=fun h=>?_)<;>try exact prn)|refine Ag J J J J J ?_|(refine Al J (ht:=fun h=>?_) (hf:=fun h=>?_)<;>try exact prn)|refine Au ?_|refine Aq ?_|refine Ar ?_|refine A3 ?_|refine Aj Ab J J J J J J J (Ac Z) J ?_|refine Ae Ab J J J J J J J Z (Ac Z) J ?_|refine Ah Ab J J J J J J J J J J J J J (by simp[Ad];omega) ?_|refine Af Ab J J J J J J J J J J J J J J (by simp[Ad];omega) ?_|refine A8 Ab J J J J J (fun _=>rfl) (fun b hb=>?_)|refine As J J J J ?_|refine A4 ?_|(refine A5 J J J J J (ht:=fun h=>?_) (hf:=fun h=>?_)<;>try exact prn)|(refine A6 J J J J J (ht:=fun h=>?_) (hf:=fun h=>?_)<;>try exact prn)|refine Ai J J J J J ?_|refine An J J J J J J J (Ac Z) J ?_|refine Ao J J J J J J J Z (Ac Z) J ?_|refine A7 Ab J J J J J J J (M9 _ _ _) J J ?_)
 all_goals(refine AC J (BN ?_);simp only[CE,LB])
 all_goals(rw[Bool.eq_iff_iff];simp;try omega)
theorem SS (r:Row):Ct Tryz.prog 60 [.agg (AA (AK r))] [] (.t (.bool (!CE r))) []:=by
 refine ct0 Ab Tryz.func60 J false J J ?_
 repeat'(first|refine Ak Ab J J J J J ?_|refine Ap Ab J J J ?_|refine A0 ?_|refine A9 ?_|refine Aw Ab J J ?_|(refine A1 J J J J J (ht:=fun h=>?_) (hf:=fun h=>?_)<;>try exact prn)|(refine A2 J J J J J (ht:=fun h=>?_) (hf:=fun h=>?_)<;>try exact prn)|refine Ag J J J J J ?_|(refine Al J (ht:=fun h=>?_) (hf:=fun h=>?_)<;>try exact prn)|refine Au ?_|refine Aq ?_|refine Ar ?_|refine A3 ?_|refine Aj Ab J J J J J J J (Ac Z) J ?_|refine Ae Ab J J J J J J J Z (Ac Z) J ?_|refine Ah Ab J J J J J J J J J J J J J (by simp[Ad];omega) ?_|refine Af Ab J J J J J J J J J J J J J J (by simp[Ad];omega) ?_|refine A8 Ab J J J J J (fun _=>rfl) (fun b hb=>?_)|refine As J J J J ?_|refine A4 ?_|(refine A5 J J J J J (ht:=fun h=>?_) (hf:=fun h=>?_)<;>try exact prn)|(refine A6 J J J J J (ht:=fun h=>?_) (hf:=fun h=>?_)<;>try exact prn)|refine Ai J J J J J ?_|refine An J J J J J J J (Ac Z) J ?_|refine Ao J J J J J J J Z (Ac Z) J ?_|refine A7 Ab J J J J J J J (Qh r) J J ?_)
 exact AC J (Sub.of_eq J)
theorem P5 (a b:List Row) (ha:a.length≤1000000000):Ct Tryz.prog 63 [.t (.slice .any 5 (a.map AK)),.t (.slice .any 5 (b.map AK))] [] (.t (.bool (decide (a=b)))) []:=by
 refine ct0 Ab Tryz.func63 J false J J ?_
 have hla:(a.map AK).length=a.length:=List.length_map ..
 have hlb:(b.map AK).length=b.length:=List.length_map ..
 repeat'(first|refine Ak Ab J J J J J ?_|refine Ap Ab J J J ?_|refine A0 ?_|refine A9 ?_|refine Aw Ab J J ?_|(refine A1 J J J J J (ht:=fun h=>?_) (hf:=fun h=>?_)<;>try exact prn)|(refine A2 J J J J J (ht:=fun h=>?_) (hf:=fun h=>?_)<;>try exact prn)|refine Ag J J J J J ?_|(refine Al J (ht:=fun h=>?_) (hf:=fun h=>?_)<;>try exact prn)|refine Au ?_|refine Aq ?_|refine Ar ?_|refine A3 ?_|refine Aj Ab J J J J J J J (Ac Z) J ?_|refine Ae Ab J J J J J J J Z (Ac Z) J ?_|refine Ah Ab J J J J J J J J J J J J J (by simp[Ad];omega) ?_|refine Af Ab J J J J J J J J J J J J J J (by simp[Ad];omega) ?_|refine A8 Ab J J J J J (fun _=>rfl) (fun b hb=>?_)|refine AD (id:=6) (m:=8) Ab U J J J J ?_|refine As J J J J ?_|refine A4 ?_|(refine A5 J J J J J (ht:=fun h=>?_) (hf:=fun h=>?_)<;>try exact prn)|(refine A6 J J J J J (ht:=fun h=>?_) (hf:=fun h=>?_)<;>try exact prn)|refine Ai J J J J J ?_|refine An J J J J J J J (Ac Z) J ?_|refine Ao J J J J J J J Z (Ac Z) J ?_)
 ·exact AC J (BN (bF fun e=>by subst e;exact h J))
 have hl:a.length=b.length:=by omega
 refine BC (ι:=Nat) (fun i=>i≤a.length∧a.take i=b.take i) (fun i=>[(0,.t (.slice .any 5 (a.map AK))),(1,.t (.slice .any 5 (b.map AK))),(12,.t (.int .i64 ((a.map AK).length:Int))),(13,.t (.int .i64 i))]) (fun _=>[]) (fun i=>a.length-i) 0 Y ?_ ?_
 ·exact Ce [] (Av J J (Av J J (Av J J (Av J J AJ)))) J
 rintro i ⟨hi,htk⟩
 by_cases hlt:i<a.length
 ·have hr:a[i]?=some a[i]:=List.getElem?_eq_getElem hlt
  have hs:b[i]?=some (b[i]' O):=List.getElem?_eq_getElem _
  generalize a[i]=r at hr
  generalize b[i]' O=s at hs
  repeat'(first|refine Ak Ab J J J J J ?_|refine Ap Ab J J J ?_|refine A0 ?_|refine A9 ?_|refine Aw Ab J J ?_|(refine A1 J J J J J (ht:=fun h=>?_) (hf:=fun h=>?_)<;>try exact prn)|(refine A2 J J J J J (ht:=fun h=>?_) (hf:=fun h=>?_)<;>try exact prn)|refine Ag J J J J J ?_|(refine Al J (ht:=fun h=>?_) (hf:=fun h=>?_)<;>try exact prn)|refine Au ?_|refine Aq ?_|refine Ar ?_|refine A3 ?_|refine Aj Ab J J J J J J J (Ac Z) J ?_|refine Ae Ab J J J J J J J Z (Ac Z) J ?_|refine Ah Ab J J J J J J J J J J J J J (by simp[Ad];omega) ?_|refine Af Ab J J J J J J J J J J J J J J (by simp[Ad];omega) ?_|refine A8 Ab J J J J J (fun _=>rfl) (fun b hb=>?_)|refine AD (id:=6) (m:=8) Ab U J J J J ?_|refine As J J J J ?_|refine A4 ?_|(refine A5 J J J J J (ht:=fun h=>?_) (hf:=fun h=>?_)<;>try exact prn)|(refine A6 J J J J J (ht:=fun h=>?_) (hf:=fun h=>?_)<;>try exact prn)|refine Ai J J J J J ?_|refine An J J J J J J J (Ac Z) J ?_|refine Ao J J J J J J J Z (Ac Z) J ?_)
  ·exact AC J (BN (bF (fun e=>by subst e;rw[hr]at hs;cases hs;simp at h)))
  ·have e:r=s:=by cases r;cases s;simp at h;simp[h]
   refine BB (i+1) ⟨hlt,IF hr hs htk e⟩ O [] (Av J J (Av J J (Av J J (Av J ?_ AJ)))) J
   rw[AW O O];rfl
 ·repeat'(first|refine Ak Ab J J J J J ?_|refine Ap Ab J J J ?_|refine A0 ?_|refine A9 ?_|refine Aw Ab J J ?_|(refine A1 J J J J J (ht:=fun h=>?_) (hf:=fun h=>?_)<;>try exact prn)|(refine A2 J J J J J (ht:=fun h=>?_) (hf:=fun h=>?_)<;>try exact prn)|refine Ag J J J J J ?_|(refine Al J (ht:=fun h=>?_) (hf:=fun h=>?_)<;>try exact prn)|refine Au ?_|refine Aq ?_|refine Ar ?_|refine A3 ?_|refine Aj Ab J J J J J J J (Ac Z) J ?_|refine Ae Ab J J J J J J J Z (Ac Z) J ?_|refine Ah Ab J J J J J J J J J J J J J (by simp[Ad];omega) ?_|refine Af Ab J J J J J J J J J J J J J J (by simp[Ad];omega) ?_|refine A8 Ab J J J J J (fun _=>rfl) (fun b hb=>?_)|refine AD (id:=6) (m:=8) Ab U J J J J ?_|refine As J J J J ?_|refine A4 ?_|(refine A5 J J J J J (ht:=fun h=>?_) (hf:=fun h=>?_)<;>try exact prn)|(refine A6 J J J J J (ht:=fun h=>?_) (hf:=fun h=>?_)<;>try exact prn)|refine Ai J J J J J ?_|refine An J J J J J J J (Ac Z) J ?_|refine Ao J J J J J J J Z (Ac Z) J ?_)
  exact AC J (BN (bT (KF hl O htk)))
theorem MT (a b:Reply) (ha:a.rows.length≤1000000000):Ct Tryz.prog 42 [.agg (AA (AH a)),.agg (AA (AH b))] [] (.t (.bool (decide (a=b)))) []:=by
 refine ct0 Ab Tryz.func42 J false J J ?_
 repeat'(first|refine Ak Ab J J J J J ?_|refine Ap Ab J J J ?_|refine A0 ?_|refine A9 ?_|refine Aw Ab J J ?_|(refine A1 J J J J J (ht:=fun h=>?_) (hf:=fun h=>?_)<;>try exact prn)|(refine A2 J J J J J (ht:=fun h=>?_) (hf:=fun h=>?_)<;>try exact prn)|refine Ag J J J J J ?_|(refine Al J (ht:=fun h=>?_) (hf:=fun h=>?_)<;>try exact prn)|refine Au ?_|refine Aq ?_|refine Ar ?_|refine A3 ?_|refine Aj Ab J J J J J J J (Ac Z) J ?_|refine Ae Ab J J J J J J J Z (Ac Z) J ?_|refine Ah Ab J J J J J J J J J J J J J (by simp[Ad];omega) ?_|refine Af Ab J J J J J J J J J J J J J J (by simp[Ad];omega) ?_|refine A8 Ab J J J J J (fun _=>rfl) (fun b hb=>?_)|refine As J J J J ?_|refine A4 ?_|(refine A5 J J J J J (ht:=fun h=>?_) (hf:=fun h=>?_)<;>try exact prn)|(refine A6 J J J J J (ht:=fun h=>?_) (hf:=fun h=>?_)<;>try exact prn)|refine Ai J J J J J ?_|refine An J J J J J J J (Ac Z) J ?_|refine Ao J J J J J J J Z (Ac Z) J ?_|refine A7 Ab J J J J J J J (P5 a.rows b.rows ha) J J ?_)
 ·refine AC J (BN (bI ?_))
  rcases a with⟨k1,e1,p1,q1,o1,r1⟩
  rcases b with⟨k2,e2,p2,q2,o2,r2⟩
  simp at*;simp[*]
 all_goals exact AC J (BN (bF (fun e=>by subst e;simp at*)))
def Er (r:Reply):Bool:=
 if r.kind=1 then decide ((0≤r.epoch∧r.epoch≤100)∧(1≤r.pid∧r.pid≤8))
 else if r.kind=0 then decide (1≤r.pid∧r.pid≤8)
 else if r.kind=5 then decide ((r.offset≠ -1∧r.rows.length≤64)∧(-1≤r.offset∧r.offset≤1048576))&&r.rows.all CE
 else if r.kind=2∨r.kind=7 then decide (-1≤r.offset∧r.offset≤1048576)
 else true
def Dc (r:Reply):Reply:=
 if r.kind=1 then{r with epoch:=0,pid:=0}
 else if r.kind=0 then{r with pid:=0}
 else if r.kind=5 then{r with rows:=[],offset:=0}
 else if r.kind=2∨r.kind=7 then{r with offset:=0}
 else r
theorem TS (e p ep o:Int) (l:List Row):Ct Tryz.prog 41 [.agg (AA (AH ⟨1,e,p,ep,o,l⟩))] [] (.tuple [.t (.bool (decide ((0≤ep∧ep≤100)∧(1≤p∧p≤8)))),.agg (AA (AH ⟨1,e,0,0,o,l⟩))]) []:=by
 refine ct0 Ab Tryz.func41 J false J J ?_
 repeat'(first|refine Ak Ab J J J J J ?_|refine Ap Ab J J J ?_|refine A0 ?_|refine A9 ?_|refine Aw Ab J J ?_|(refine A1 J J J J J (ht:=fun h=>?_) (hf:=fun h=>?_)<;>try exact prn)|(refine A2 J J J J J (ht:=fun h=>?_) (hf:=fun h=>?_)<;>try exact prn)|refine Ag J J J J J ?_|(refine Al J (ht:=fun h=>?_) (hf:=fun h=>?_)<;>try exact prn)|refine Au ?_|refine Aq ?_|refine Ar ?_|refine A3 ?_|refine Aj Ab J J J J J J J (Ac Z) J ?_|refine Ae Ab J J J J J J J Z (Ac Z) J ?_|refine Ah Ab J J J J J J J J J J J J J (by simp[Ad];omega) ?_|refine Af Ab J J J J J J J J J J J J J J (by simp[Ad];omega) ?_|refine A8 Ab J J J J J (fun _=>rfl) (fun b hb=>?_)|refine AD (id:=1) (m:=2) Ab U J J J J ?_|refine AD (id:=17) (m:=3) Ab U J J J J ?_|refine As J J J J ?_|refine A4 ?_|(refine A5 J J J J J (ht:=fun h=>?_) (hf:=fun h=>?_)<;>try exact prn)|(refine A6 J J J J J (ht:=fun h=>?_) (hf:=fun h=>?_)<;>try exact prn)|refine Ai J J J J J ?_|refine An J J J J J J J (Ac Z) J ?_|refine Ao J J J J J J J Z (Ac Z) J ?_|refine A7 Ab J J J J J J J (M9 _ _ _) J J ?_)
 all_goals(refine AC J (BL ⟨BN ?_,Sub.of_eq J,trivial⟩);(try dsimp only at*)<;>(first|exact bI O|exact bT O|exact bF O))
theorem TT (e p ep o:Int) (l:List Row):Ct Tryz.prog 41 [.agg (AA (AH ⟨0,e,p,ep,o,l⟩))] [] (.tuple [.t (.bool (decide (1≤p∧p≤8))),.agg (AA (AH ⟨0,e,0,ep,o,l⟩))]) []:=by
 refine ct0 Ab Tryz.func41 J false J J ?_
 repeat'(first|refine Ak Ab J J J J J ?_|refine Ap Ab J J J ?_|refine A0 ?_|refine A9 ?_|refine Aw Ab J J ?_|(refine A1 J J J J J (ht:=fun h=>?_) (hf:=fun h=>?_)<;>try exact prn)|(refine A2 J J J J J (ht:=fun h=>?_) (hf:=fun h=>?_)<;>try exact prn)|refine Ag J J J J J ?_|(refine Al J (ht:=fun h=>?_) (hf:=fun h=>?_)<;>try exact prn)|refine Au ?_|refine Aq ?_|refine Ar ?_|refine A3 ?_|refine Aj Ab J J J J J J J (Ac Z) J ?_|refine Ae Ab J J J J J J J Z (Ac Z) J ?_|refine Ah Ab J J J J J J J J J J J J J (by simp[Ad];omega) ?_|refine Af Ab J J J J J J J J J J J J J J (by simp[Ad];omega) ?_|refine A8 Ab J J J J J (fun _=>rfl) (fun b hb=>?_)|refine AD (id:=1) (m:=2) Ab U J J J J ?_|refine AD (id:=17) (m:=3) Ab U J J J J ?_|refine As J J J J ?_|refine A4 ?_|(refine A5 J J J J J (ht:=fun h=>?_) (hf:=fun h=>?_)<;>try exact prn)|(refine A6 J J J J J (ht:=fun h=>?_) (hf:=fun h=>?_)<;>try exact prn)|refine Ai J J J J J ?_|refine An J J J J J J J (Ac Z) J ?_|refine Ao J J J J J J J Z (Ac Z) J ?_|refine A7 Ab J J J J J J J (M9 _ _ _) J J ?_)
 all_goals(refine AC J (BL ⟨BN ?_,Sub.of_eq J,trivial⟩);(try dsimp only at*)<;>(first|exact bI O|exact bT O|exact bF O))
theorem TR (k e p ep o:Int) (l:List Row) (hk:k=2∨k=7):Ct Tryz.prog 41 [.agg (AA (AH ⟨k,e,p,ep,o,l⟩))] [] (.tuple [.t (.bool (decide (-1≤o∧o≤1048576))),.agg (AA (AH ⟨k,e,p,ep,0,l⟩))]) []:=by
 refine ct0 Ab Tryz.func41 J false J J ?_
 rcases hk with rfl|rfl
 all_goals
  repeat'(first|refine Ak Ab J J J J J ?_|refine Ap Ab J J J ?_|refine A0 ?_|refine A9 ?_|refine Aw Ab J J ?_|(refine A1 J J J J J (ht:=fun h=>?_) (hf:=fun h=>?_)<;>try exact prn)|(refine A2 J J J J J (ht:=fun h=>?_) (hf:=fun h=>?_)<;>try exact prn)|refine Ag J J J J J ?_|(refine Al J (ht:=fun h=>?_) (hf:=fun h=>?_)<;>try exact prn)|refine Au ?_|refine Aq ?_|refine Ar ?_|refine A3 ?_|refine Aj Ab J J J J J J J (Ac Z) J ?_|refine Ae Ab J J J J J J J Z (Ac Z) J ?_|refine Ah Ab J J J J J J J J J J J J J (by simp[Ad];omega) ?_|refine Af Ab J J J J J J J J J J J J J J (by simp[Ad];omega) ?_|refine A8 Ab J J J J J (fun _=>rfl) (fun b hb=>?_)|refine AD (id:=1) (m:=2) Ab U J J J J ?_|refine AD (id:=17) (m:=3) Ab U J J J J ?_|refine As J J J J ?_|refine A4 ?_|(refine A5 J J J J J (ht:=fun h=>?_) (hf:=fun h=>?_)<;>try exact prn)|(refine A6 J J J J J (ht:=fun h=>?_) (hf:=fun h=>?_)<;>try exact prn)|refine Ai J J J J J ?_|refine An J J J J J J J (Ac Z) J ?_|refine Ao J J J J J J J Z (Ac Z) J ?_|refine A7 Ab J J J J J J J (M9 _ _ _) J J ?_)
  all_goals(refine AC J (BL ⟨BN ?_,Sub.of_eq J,trivial⟩);(try dsimp only at*)<;>(first|exact bI O|exact bT O|exact bF O))
theorem TQ (e p ep o:Int) (l:List Row) (hl:l.length≤1000000):Ct Tryz.prog 41 [.agg (AA (AH ⟨5,e,p,ep,o,l⟩))] [] (.tuple [.t (.bool (decide ((o≠ -1∧l.length≤64)∧(-1≤o∧o≤1048576))&&l.all CE)),.agg (AA (AH ⟨5,e,p,ep,0,[]⟩))]) []:=by
 have hlm:(l.map AK).length=l.length:=List.length_map ..
 have cc:=Md 60 [] (fun w=> !CE w) l O SS J
 have ha:l.all CE= !(l.any fun w=> !CE w):=by simp[List.not_any_eq_all_not]
 rw[ha]
 generalize(l.any fun w=> !CE w)=q at cc
 refine ct0 Ab Tryz.func41 J false J J ?_
 cases q
 all_goals
  simp only[Bool.not_true,Bool.not_false,Bool.and_true,Bool.and_false]
  repeat'(first|refine Ak Ab J J J J J ?_|refine Ap Ab J J J ?_|refine A0 ?_|refine A9 ?_|refine Aw Ab J J ?_|(refine A1 J J J J J (ht:=fun h=>?_) (hf:=fun h=>?_)<;>try exact prn)|(refine A2 J J J J J (ht:=fun h=>?_) (hf:=fun h=>?_)<;>try exact prn)|refine Ag J J J J J ?_|(refine Al J (ht:=fun h=>?_) (hf:=fun h=>?_)<;>try exact prn)|refine Au ?_|refine Aq ?_|refine Ar ?_|refine A3 ?_|refine Aj Ab J J J J J J J (Ac Z) J ?_|refine Ae Ab J J J J J J J Z (Ac Z) J ?_|refine Ah Ab J J J J J J J J J J J J J (by simp[Ad];omega) ?_|refine Af Ab J J J J J J J J J J J J J J (by simp[Ad];omega) ?_|refine A8 Ab J J J J J (fun _=>rfl) (fun b hb=>?_)|refine AD (id:=1) (m:=2) Ab U J J J J ?_|refine AD (id:=17) (m:=3) Ab U J J J J ?_|refine As J J J J ?_|refine A4 ?_|(refine A5 J J J J J (ht:=fun h=>?_) (hf:=fun h=>?_)<;>try exact prn)|(refine A6 J J J J J (ht:=fun h=>?_) (hf:=fun h=>?_)<;>try exact prn)|refine Ai J J J J J ?_|refine An J J J J J J J (Ac Z) J ?_|refine Ao J J J J J J J Z (Ac Z) J ?_|refine A7 Ab J J J J J J J (M9 _ _ _) J J ?_|refine A7 Ab J J J J J J J (cc) J J ?_)
  all_goals(refine AC J (BL ⟨BN ?_,BM ⟨Sub.refl _,Sub.refl _,Sub.refl _,Sub.refl _,Sub.refl _,AY,trivial⟩,trivial⟩);first|rfl|((try dsimp only at*)<;>(first|exact bI O|exact bT O|exact bF O)))
theorem TP (k e p ep o:Int) (l:List Row) (hk: ¬(k=0∨k=1∨k=2∨k=5∨k=7)):Ct Tryz.prog 41 [.agg (AA (AH ⟨k,e,p,ep,o,l⟩))] [] (.tuple [.t (.bool true),.agg (AA (AH ⟨k,e,p,ep,o,l⟩))]) []:=by
 refine ct0 Ab Tryz.func41 J false J J ?_
 repeat'(first|refine Ak Ab J J J J J ?_|refine Ap Ab J J J ?_|refine A0 ?_|refine A9 ?_|refine Aw Ab J J ?_|(refine A1 J J J J J (ht:=fun h=>?_) (hf:=fun h=>?_)<;>try exact prn)|(refine A2 J J J J J (ht:=fun h=>?_) (hf:=fun h=>?_)<;>try exact prn)|refine Ag J J J J J ?_|(refine Al J (ht:=fun h=>?_) (hf:=fun h=>?_)<;>try exact prn)|refine Au ?_|refine Aq ?_|refine Ar ?_|refine A3 ?_|refine Aj Ab J J J J J J J (Ac Z) J ?_|refine Ae Ab J J J J J J J Z (Ac Z) J ?_|refine Ah Ab J J J J J J J J J J J J J (by simp[Ad];omega) ?_|refine Af Ab J J J J J J J J J J J J J J (by simp[Ad];omega) ?_|refine A8 Ab J J J J J (fun _=>rfl) (fun b hb=>?_)|refine AD (id:=1) (m:=2) Ab U J J J J ?_|refine AD (id:=17) (m:=3) Ab U J J J J ?_|refine As J J J J ?_|refine A4 ?_|(refine A5 J J J J J (ht:=fun h=>?_) (hf:=fun h=>?_)<;>try exact prn)|(refine A6 J J J J J (ht:=fun h=>?_) (hf:=fun h=>?_)<;>try exact prn)|refine Ai J J J J J ?_|refine An J J J J J J J (Ac Z) J ?_|refine Ao J J J J J J J Z (Ac Z) J ?_|refine A7 Ab J J J J J J J (M9 _ _ _) J J ?_)
 all_goals first|(exfalso;omega)|exact AC J (Sub.of_eq J)
theorem SE (r:Reply) (hl:r.rows.length≤1000000):Ct Tryz.prog 41 [.agg (AA (AH r))] [] (.tuple [.t (.bool (Er r)),.agg (AA (AH (Dc r)))]) []:=by
 obtain⟨k,e,p,ep,o,l⟩:=r
 by_cases k1:k=1
 ·subst k1;exact TS e p ep o l
 by_cases k0:k=0
 ·subst k0;exact TT e p ep o l
 by_cases k5:k=5
 ·subst k5;exact TQ e p ep o l hl
 by_cases k2:k=2∨k=7
 ·have h:=TR k e p ep o l k2
  rw[show Er ⟨k,e,p,ep,o,l⟩=decide (-1≤o∧o≤1048576)by simp[Er,k1,k0,k5,k2],show Dc ⟨k,e,p,ep,o,l⟩=⟨k,e,p,ep,0,l⟩by simp[Dc,k1,k0,k5,k2]]
  exact h
 ·have h:=TP k e p ep o l O
  rw[show Er ⟨k,e,p,ep,o,l⟩=true by simp[Er,k1,k0,k5,k2],show Dc ⟨k,e,p,ep,o,l⟩=⟨k,e,p,ep,o,l⟩by simp[Dc,k1,k0,k5,k2]]
  exact h
end Go.Proofs.YthjoclecnacdiaaGreatDoor
