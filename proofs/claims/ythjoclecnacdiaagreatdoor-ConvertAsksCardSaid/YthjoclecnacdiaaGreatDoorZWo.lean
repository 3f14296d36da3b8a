/- Contracts of references: what is too great to be asked. -/
import Derived.Test.YthjoclecnacdiaaGreatDoorZM9
import Derived.Test.YthjoclecnacdiaaGreatDoorZM10
import Derived.Test.YthjoclecnacdiaaGreatDoorZM11
import Derived.Test.YthjoclecnacdiaaGreatDoorZWm
set_option linter.unusedVariables false
set_option linter.unusedSimpArgs false
namespace Go.Proofs.YthjoclecnacdiaaGreatDoor
open Go.Am
attribute [local irreducible] Decidable.decide
set_option maxRecDepth 100000
set_option maxHeartbeats 1000000
theorem SV (b:Batch):CtF Tryz.prog 14 [.agg (AA (Bj b))] [] (fun x:Bool=>x=false→b.recs.length≤60) (fun x=>.t (.bool x)) (fun _=>[]):=by
 have hlm:(b.recs.map Bk).length=b.recs.length:=List.length_map ..
 refine ctF Ab Tryz.func14 J J ?_
 repeat'(first|refine Ak Ab J J J J J ?_|refine Ap Ab J J J ?_|refine A0 ?_|refine A9 ?_|refine Aw Ab J J ?_|(refine A1 J J J J J (ht:=fun h=>?_) (hf:=fun h=>?_)<;>try exact prn)|(refine A2 J J J J J (ht:=fun h=>?_) (hf:=fun h=>?_)<;>try exact prn)|refine Ag J J J J J ?_|(refine Al J (ht:=fun h=>?_) (hf:=fun h=>?_)<;>try exact prn)|refine Au ?_|refine Aq ?_|refine Ar ?_|refine A3 ?_|refine Aj Ab J J J J J J J (Ac Z) J ?_|refine Ae Ab J J J J J J J Z (Ac Z) J ?_|refine Ah Ab J J J J J J J J J J J J J (by simp[Ad];omega) ?_|refine Af Ab J J J J J J J J J J J J J J (by simp[Ad];omega) ?_|refine A8 Ab J J J J J (fun _=>rfl) (fun b hb=>?_)|refine AD (id:=5) (m:=18) Ab U J J J J ?_|refine As J J J J ?_|refine A4 ?_|(refine A5 J J J J J (ht:=fun h=>?_) (hf:=fun h=>?_)<;>try exact prn)|(refine A6 J J J J J (ht:=fun h=>?_) (hf:=fun h=>?_)<;>try exact prn)|refine Ai J J J J J ?_|refine An J J J J J J J (Ac Z) J ?_|refine Ao J J J J J J J Z (Ac Z) J ?_)
 refine BC (ι:=Int×Nat) (fun p=>p.2≤b.recs.length) (fun p=>[(1,.ref 2 0),(3,.t (.int .i64 p.1)),(4,.t (.int .i64 p.2))]) (fun _=>[(2,.cells (AA (Bj b)))]) (fun p=>b.recs.length-p.2) (0,0) Y ?_ ?_
 ·exact Ce [] (Av J J (Av J J (Av J J AJ))) J
 rintro⟨s,i⟩ hi
 dsimp only at hi
 by_cases hlt:i<b.recs.length
 ·have hr:b.recs[i]?=some b.recs[i]:=List.getElem?_eq_getElem hlt
  generalize b.recs[i]=c at hr
  repeat'(first|refine Ak Ab J J J J J ?_|refine Ap Ab J J J ?_|refine A0 ?_|refine A9 ?_|refine Aw Ab J J ?_|(refine A1 J J J J J (ht:=fun h=>?_) (hf:=fun h=>?_)<;>try exact prn)|(refine A2 J J J J J (ht:=fun h=>?_) (hf:=fun h=>?_)<;>try exact prn)|refine Ag J J J J J ?_|(refine Al J (ht:=fun h=>?_) (hf:=fun h=>?_)<;>try exact prn)|refine Au ?_|refine Aq ?_|refine Ar ?_|refine A3 ?_|refine Aj Ab J J J J J J J (Ac Z) J ?_|refine Ae Ab J J J J J J J Z (Ac Z) J ?_|refine Ah Ab J J J J J J J J J J J J J (by simp[Ad];omega) ?_|refine Af Ab J J J J J J J J J J J J J J (by simp[Ad];omega) ?_|refine A8 Ab J J J J J (fun _=>rfl) (fun b hb=>?_)|refine AD (id:=5) (m:=18) Ab U J J J J ?_|refine As J J J J ?_|refine A4 ?_|(refine A5 J J J J J (ht:=fun h=>?_) (hf:=fun h=>?_)<;>try exact prn)|(refine A6 J J J J J (ht:=fun h=>?_) (hf:=fun h=>?_)<;>try exact prn)|refine Ai J J J J J ?_|refine An J J J J J J J (Ac Z) J ?_|refine Ao J J J J J J J Z (Ac Z) J ?_)
  all_goals first
   |(refine BB (_,i+1) hlt (show b.recs.length-(i+1)<b.recs.length-i by omega) [] (Av J J (Av J J (Av J (by rw[AW O O];rfl) AJ))) J)
   |(refine Cq _ (fun hx=>?_) [1] J J J (Sub.refl _);first|(cases hx;done)|omega)
 ·repeat'(first|refine Ak Ab J J J J J ?_|refine Ap Ab J J J ?_|refine A0 ?_|refine A9 ?_|refine Aw Ab J J ?_|(refine A1 J J J J J (ht:=fun h=>?_) (hf:=fun h=>?_)<;>try exact prn)|(refine A2 J J J J J (ht:=fun h=>?_) (hf:=fun h=>?_)<;>try exact prn)|refine Ag J J J J J ?_|(refine Al J (ht:=fun h=>?_) (hf:=fun h=>?_)<;>try exact prn)|refine Au ?_|refine Aq ?_|refine Ar ?_|refine A3 ?_|refine Aj Ab J J J J J J J (Ac Z) J ?_|refine Ae Ab J J J J J J J Z (Ac Z) J ?_|refine Ah Ab J J J J J J J J J J J J J (by simp[Ad];omega) ?_|refine Af Ab J J J J J J J J J J J J J J (by simp[Ad];omega) ?_|refine A8 Ab J J J J J (fun _=>rfl) (fun b hb=>?_)|refine AD (id:=5) (m:=18) Ab U J J J J ?_|refine As J J J J ?_|refine A4 ?_|(refine A5 J J J J J (ht:=fun h=>?_) (hf:=fun h=>?_)<;>try exact prn)|(refine A6 J J J J J (ht:=fun h=>?_) (hf:=fun h=>?_)<;>try exact prn)|refine Ai J J J J J ?_|refine An J J J J J J J (Ac Z) J ?_|refine Ao J J J J J J J Z (Ac Z) J ?_)
  all_goals(refine Cq _ (fun hx=>?_) [1] J J J (Sub.refl _);first|(cases hx;done)|omega)
theorem SU (r:Req):CtF Tryz.prog 4 [.agg (AA (BU r))] [] (fun x:Bool=>x=false→r.b.recs.length≤60) (fun x=>.t (.bool x)) (fun _=>[]):=by
 refine ctF Ab Tryz.func4 J J ?_
 repeat'(first|refine Ak Ab J J J J J ?_|refine Ap Ab J J J ?_|refine A0 ?_|refine A9 ?_|refine Aw Ab J J ?_|(refine A1 J J J J J (ht:=fun h=>?_) (hf:=fun h=>?_)<;>try exact prn)|(refine A2 J J J J J (ht:=fun h=>?_) (hf:=fun h=>?_)<;>try exact prn)|refine Ag J J J J J ?_|(refine Al J (ht:=fun h=>?_) (hf:=fun h=>?_)<;>try exact prn)|refine Au ?_|refine Aq ?_|refine Ar ?_|refine A3 ?_|refine Aj Ab J J J J J J J (Ac Z) J ?_|refine Ae Ab J J J J J J J Z (Ac Z) J ?_|refine Ah Ab J J J J J J J J J J J J J (by simp[Ad];omega) ?_|refine Af Ab J J J J J J J J J J J J J J (by simp[Ad];omega) ?_|refine A8 Ab J J J J J (fun _=>rfl) (fun b hb=>?_)|refine As J J J J ?_|refine A4 ?_|(refine A5 J J J J J (ht:=fun h=>?_) (hf:=fun h=>?_)<;>try exact prn)|(refine A6 J J J J J (ht:=fun h=>?_) (hf:=fun h=>?_)<;>try exact prn)|refine Ai J J J J J ?_|refine An J J J J J J J (Ac Z) J ?_|refine Ao J J J J J J J Z (Ac Z) J ?_|refine EF Ab [] [] J J J J J (SV r.b) J (fun _ _=>rfl) (fun _ _=>rfl) (fun _ _=>rfl) (fun j hj=>?_))
 exact Cq j hj [1] J J J (Sub.refl _)
theorem ST (r:Reply):CtF Tryz.prog 5 [.agg (AA (AH r))] [] (fun x:Bool=>x=false→r.rows.length≤200) (fun x=>.t (.bool x)) (fun _=>[]):=by
 have hlm:(r.rows.map AK).length=r.rows.length:=List.length_map ..
 refine ctF Ab Tryz.func5 J J ?_
 repeat'(first|refine Ak Ab J J J J J ?_|refine Ap Ab J J J ?_|refine A0 ?_|refine A9 ?_|refine Aw Ab J J ?_|(refine A1 J J J J J (ht:=fun h=>?_) (hf:=fun h=>?_)<;>try exact prn)|(refine A2 J J J J J (ht:=fun h=>?_) (hf:=fun h=>?_)<;>try exact prn)|refine Ag J J J J J ?_|(refine Al J (ht:=fun h=>?_) (hf:=fun h=>?_)<;>try exact prn)|refine Au ?_|refine Aq ?_|refine Ar ?_|refine A3 ?_|refine Aj Ab J J J J J J J (Ac Z) J ?_|refine Ae Ab J J J J J J J Z (Ac Z) J ?_|refine Ah Ab J J J J J J J J J J J J J (by simp[Ad];omega) ?_|refine Af Ab J J J J J J J J J J J J J J (by simp[Ad];omega) ?_|refine A8 Ab J J J J J (fun _=>rfl) (fun b hb=>?_)|refine As J J J J ?_|refine A4 ?_|(refine A5 J J J J J (ht:=fun h=>?_) (hf:=fun h=>?_)<;>try exact prn)|(refine A6 J J J J J (ht:=fun h=>?_) (hf:=fun h=>?_)<;>try exact prn)|refine Ai J J J J J ?_|refine An J J J J J J J (Ac Z) J ?_|refine Ao J J J J J J J Z (Ac Z) J ?_)
 ·exact Cq true (fun hx=>by cases hx) [1] rfl rfl rfl (Sub.refl _)
 refine BC (ι:=Nat) (fun i=>i≤r.rows.length) (fun i=>[(1,.ref 2 0),(3,.t (.int .i64 i))]) (fun _=>[(2,.cells (AA (AH r)))]) (fun i=>r.rows.length-i) 0 Y ?_ ?_
 ·exact Ce [] (Av J J (Av J J AJ)) J
 rintro i hi
 by_cases hlt:i<r.rows.length
 ·have hr:r.rows[i]?=some r.rows[i]:=List.getElem?_eq_getElem hlt
  generalize r.rows[i]=c at hr
  repeat'(first|refine Ak Ab J J J J J ?_|refine Ap Ab J J J ?_|refine A0 ?_|refine A9 ?_|refine Aw Ab J J ?_|(refine A1 J J J J J (ht:=fun h=>?_) (hf:=fun h=>?_)<;>try exact prn)|(refine A2 J J J J J (ht:=fun h=>?_) (hf:=fun h=>?_)<;>try exact prn)|refine Ag J J J J J ?_|(refine Al J (ht:=fun h=>?_) (hf:=fun h=>?_)<;>try exact prn)|refine Au ?_|refine Aq ?_|refine Ar ?_|refine A3 ?_|refine Aj Ab J J J J J J J (Ac Z) J ?_|refine Ae Ab J J J J J J J Z (Ac Z) J ?_|refine Ah Ab J J J J J J J J J J J J J (by simp[Ad];omega) ?_|refine Af Ab J J J J J J J J J J J J J J (by simp[Ad];omega) ?_|refine A8 Ab J J J J J (fun _=>rfl) (fun b hb=>?_)|refine As J J J J ?_|refine A4 ?_|(refine A5 J J J J J (ht:=fun h=>?_) (hf:=fun h=>?_)<;>try exact prn)|(refine A6 J J J J J (ht:=fun h=>?_) (hf:=fun h=>?_)<;>try exact prn)|refine Ai J J J J J ?_|refine An J J J J J J J (Ac Z) J ?_|refine Ao J J J J J J J Z (Ac Z) J ?_)
  all_goals first
   |(refine BB (i+1) hlt O [] (Av J J (Av J (by rw[AW O O];rfl) AJ)) J)
   |exact Cq true (fun hx=>by cases hx) [1] rfl rfl rfl (Sub.refl _)
 ·repeat'(first|refine Ak Ab J J J J J ?_|refine Ap Ab J J J ?_|refine A0 ?_|refine A9 ?_|refine Aw Ab J J ?_|(refine A1 J J J J J (ht:=fun h=>?_) (hf:=fun h=>?_)<;>try exact prn)|(refine A2 J J J J J (ht:=fun h=>?_) (hf:=fun h=>?_)<;>try exact prn)|refine Ag J J J J J ?_|(refine Al J (ht:=fun h=>?_) (hf:=fun h=>?_)<;>try exact prn)|refine Au ?_|refine Aq ?_|refine Ar ?_|refine A3 ?_|refine Aj Ab J J J J J J J (Ac Z) J ?_|refine Ae Ab J J J J J J J Z (Ac Z) J ?_|refine Ah Ab J J J J J J J J J J J J J (by simp[Ad];omega) ?_|refine Af Ab J J J J J J J J J J J J J J (by simp[Ad];omega) ?_|refine A8 Ab J J J J J (fun _=>rfl) (fun b hb=>?_)|refine As J J J J ?_|refine A4 ?_|(refine A5 J J J J J (ht:=fun h=>?_) (hf:=fun h=>?_)<;>try exact prn)|(refine A6 J J J J J (ht:=fun h=>?_) (hf:=fun h=>?_)<;>try exact prn)|refine Ai J J J J J ?_|refine An J J J J J J J (Ac Z) J ?_|refine Ao J J J J J J J Z (Ac Z) J ?_)
  exact Cq false (fun hx=>by omega) [1] J J J (Sub.refl _)
theorem QQ (t:Table):Ct Tryz.prog 15 [.agg (AA (AN t))] [] (.t (.bool (decide (600<(t.new.length:Int))))) []:=by
 have hlm:(t.new.map QV).length=t.new.length:=List.length_map ..
 refine ct0 Ab Tryz.func15 J false J J ?_
 repeat'(first|refine Ak Ab J J J J J ?_|refine Ap Ab J J J ?_|refine A0 ?_|refine A9 ?_|refine Aw Ab J J ?_|(refine A1 J J J J J (ht:=fun h=>?_) (hf:=fun h=>?_)<;>try exact prn)|(refine A2 J J J J J (ht:=fun h=>?_) (hf:=fun h=>?_)<;>try exact prn)|refine Ag J J J J J ?_|(refine Al J (ht:=fun h=>?_) (hf:=fun h=>?_)<;>try exact prn)|refine Au ?_|refine Aq ?_|refine Ar ?_|refine A3 ?_|refine Aj Ab J J J J J J J (Ac Z) J ?_|refine Ae Ab J J J J J J J Z (Ac Z) J ?_|refine Ah Ab J J J J J J J J J J J J J (by simp[Ad];omega) ?_|refine Af Ab J J J J J J J J J J J J J J (by simp[Ad];omega) ?_|refine A8 Ab J J J J J (fun _=>rfl) (fun b hb=>?_)|refine As J J J J ?_|refine A4 ?_|(refine A5 J J J J J (ht:=fun h=>?_) (hf:=fun h=>?_)<;>try exact prn)|(refine A6 J J J J J (ht:=fun h=>?_) (hf:=fun h=>?_)<;>try exact prn)|refine Ai J J J J J ?_|refine An J J J J J J J (Ac Z) J ?_|refine Ao J J J J J J J Z (Ac Z) J ?_)
 exact AC J (BN (by rw[hlm]))
theorem QP (l:List Table):CtF Tryz.prog 6 [.t (.slice .any 3 (l.map AN))] [] (fun x:Bool=>x=false→l.length≤20∧ ∀t∈l,t.new.length≤600) (fun x=>.t (.bool x)) (fun _=>[]):=by
 have hlm:(l.map AN).length=l.length:=List.length_map ..
 refine ctF Ab Tryz.func6 J J ?_
 repeat'(first|refine Ak Ab J J J J J ?_|refine Ap Ab J J J ?_|refine A0 ?_|refine A9 ?_|refine Aw Ab J J ?_|(refine A1 J J J J J (ht:=fun h=>?_) (hf:=fun h=>?_)<;>try exact prn)|(refine A2 J J J J J (ht:=fun h=>?_) (hf:=fun h=>?_)<;>try exact prn)|refine Ag J J J J J ?_|(refine Al J (ht:=fun h=>?_) (hf:=fun h=>?_)<;>try exact prn)|refine Au ?_|refine Aq ?_|refine Ar ?_|refine A3 ?_|refine Aj Ab J J J J J J J (Ac Z) J ?_|refine Ae Ab J J J J J J J Z (Ac Z) J ?_|refine Ah Ab J J J J J J J J J J J J J (by simp[Ad];omega) ?_|refine Af Ab J J J J J J J J J J J J J J (by simp[Ad];omega) ?_|refine A8 Ab J J J J J (fun _=>rfl) (fun b hb=>?_)|refine As J J J J ?_|refine A4 ?_|(refine A5 J J J J J (ht:=fun h=>?_) (hf:=fun h=>?_)<;>try exact prn)|(refine A6 J J J J J (ht:=fun h=>?_) (hf:=fun h=>?_)<;>try exact prn)|refine Ai J J J J J ?_|refine An J J J J J J J (Ac Z) J ?_|refine Ao J J J J J J J Z (Ac Z) J ?_)
 refine BC (ι:=Nat) (fun i=>i≤l.length∧ ∀t∈l.take i,t.new.length≤600) (fun i=>[(0,.t (.slice .any 3 (l.map AN))),(3,.t (.int .i64 i))]) (fun _=>[]) (fun i=>l.length-i) 0 Y ?_ ?_
 ·exact Ce [] (Av J J (Av J J AJ)) J
 rintro i ⟨hi,hall⟩
 by_cases hlt:i<l.length
 ·have hr:l[i]?=some l[i]:=List.getElem?_eq_getElem hlt
  generalize l[i]=t at hr
  have cg:=QQ t
  repeat'(first|refine Ak Ab J J J J J ?_|refine Ap Ab J J J ?_|refine A0 ?_|refine A9 ?_|refine Aw Ab J J ?_|(refine A1 J J J J J (ht:=fun h=>?_) (hf:=fun h=>?_)<;>try exact prn)|(refine A2 J J J J J (ht:=fun h=>?_) (hf:=fun h=>?_)<;>try exact prn)|refine Ag J J J J J ?_|(refine Al J (ht:=fun h=>?_) (hf:=fun h=>?_)<;>try exact prn)|refine Au ?_|refine Aq ?_|refine Ar ?_|refine A3 ?_|refine Aj Ab J J J J J J J (Ac Z) J ?_|refine Ae Ab J J J J J J J Z (Ac Z) J ?_|refine Ah Ab J J J J J J J J J J J J J (by simp[Ad];omega) ?_|refine Af Ab J J J J J J J J J J J J J J (by simp[Ad];omega) ?_|refine A8 Ab J J J J J (fun _=>rfl) (fun b hb=>?_)|refine As J J J J ?_|refine A4 ?_|(refine A5 J J J J J (ht:=fun h=>?_) (hf:=fun h=>?_)<;>try exact prn)|(refine A6 J J J J J (ht:=fun h=>?_) (hf:=fun h=>?_)<;>try exact prn)|refine Ai J J J J J ?_|refine An J J J J J J J (Ac Z) J ?_|refine Ao J J J J J J J Z (Ac Z) J ?_|refine A7 Ab J J J J J J J (cg) J J ?_)
  all_goals first
   |exact Cq true (fun hx=>by cases hx) [] rfl rfl rfl (Sub.refl _)
   |(refine BB (i+1) ⟨hlt,fun u hu=>?_⟩ O [] (Av J J (Av J (by rw[AW O O];rfl) AJ)) J
     rw[BK hr]at hu
     rcases List.mem_append.1 hu with hu|hu
     ·exact hall u hu
     ·simp at hu;subst hu;omega)
   |(refine Cq _ (fun hx=>?_) [] J J J (Sub.refl _);exfalso;simp at hx;omega)
 ·rw[List.take_of_length_le O]at hall
  repeat'(first|refine Ak Ab J J J J J ?_|refine Ap Ab J J J ?_|refine A0 ?_|refine A9 ?_|refine Aw Ab J J ?_|(refine A1 J J J J J (ht:=fun h=>?_) (hf:=fun h=>?_)<;>try exact prn)|(refine A2 J J J J J (ht:=fun h=>?_) (hf:=fun h=>?_)<;>try exact prn)|refine Ag J J J J J ?_|(refine Al J (ht:=fun h=>?_) (hf:=fun h=>?_)<;>try exact prn)|refine Au ?_|refine Aq ?_|refine Ar ?_|refine A3 ?_|refine Aj Ab J J J J J J J (Ac Z) J ?_|refine Ae Ab J J J J J J J Z (Ac Z) J ?_|refine Ah Ab J J J J J J J J J J J J J (by simp[Ad];omega) ?_|refine Af Ab J J J J J J J J J J J J J J (by simp[Ad];omega) ?_|refine A8 Ab J J J J J (fun _=>rfl) (fun b hb=>?_)|refine As J J J J ?_|refine A4 ?_|(refine A5 J J J J J (ht:=fun h=>?_) (hf:=fun h=>?_)<;>try exact prn)|(refine A6 J J J J J (ht:=fun h=>?_) (hf:=fun h=>?_)<;>try exact prn)|refine Ai J J J J J ?_|refine An J J J J J J J (Ac Z) J ?_|refine Ao J J J J J J J Z (Ac Z) J ?_)
  all_goals(refine Cq _ (fun hx=>⟨?_,hall⟩) [] J J J (Sub.refl _);simp at hx;omega)
end Go.Proofs.YthjoclecnacdiaaGreatDoor
