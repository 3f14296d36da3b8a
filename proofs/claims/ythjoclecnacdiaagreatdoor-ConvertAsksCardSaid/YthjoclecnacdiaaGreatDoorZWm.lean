/- Contracts of the program and of references: replies that may be. -/
import Derived.Test.YthjoclecnacdiaaGreatDoorZM9
import Derived.Test.YthjoclecnacdiaaGreatDoorZM10
import Derived.Test.YthjoclecnacdiaaGreatDoorZWg
set_option linter.unusedVariables false
set_option linter.unusedSimpArgs false
namespace Go.Proofs.YthjoclecnacdiaaGreatDoor
open Go.Am
attribute [local irreducible] Decidable.decide
set_option maxRecDepth 100000
set_option maxHeartbeats 1000000
theorem Mt (r:Reply):Bt r=(decide (0≤r.kind∧r.kind≤9)&&(decide (0≤r.e∧r.e≤400)&&(if r.e=0 then Er r&&decide (Dc r=C4 r.kind r.e)else decide (r=C4 r.kind r.e)))):=by
 obtain⟨k,e,p,ep,o,l⟩:=r
 simp only[Bt,B7,CI,Er,Dc,C4]
 rw[Bool.eq_iff_iff]
 by_cases he:e=0
 ·subst he
  by_cases h0:k=0
  ·subst h0;simp;grind
  by_cases h1:k=1
  ·subst h1;simp;grind
  by_cases h5:k=5
  ·subst h5;simp;grind
  by_cases h2:k=2∨k=7
  ·rcases h2 with rfl|rfl<;>(simp;grind)
  ·simp[h0,h1,h5,h2]
 ·simp[he];try grind
theorem Mq (r:Reply) (hl:r.rows.length≤1000000):(Dc r).rows.length≤1000000000:=by
 unfold Dc;repeat' split
 all_goals(first|(simp;done)|(dsimp only;omega)|omega)
theorem TC (r:Reply) (hl:r.rows.length≤1000000):Ct Tryz.prog 25 [.agg (AA (AH r))] [] (.t (.bool (Bt r))) []:=by
 rw[Mt]
 have cr:=SE r hl
 have c1:=XJ r.kind 0 9
 have c2:=XI r.e 0 400
 by_cases h1:0≤r.kind∧r.kind≤9
 ·by_cases h2:0≤r.e∧r.e≤400
  ·rw[decide_eq_true h1]at c1⊢
   rw[decide_eq_true h2]at c2⊢
   simp only[Bool.true_and]
   by_cases he:r.e=0
   ·rw[if_pos he]
    have cs:=MT (Dc r) (C4 r.kind r.e) (Mq r hl)
    cases hr:Er r with
    |true=>
     rw[hr]at cr
     refine ct0 Ab Tryz.func25 J false J J ?_
     repeat'(first|refine Ak Ab J J J J J ?_|refine Ap Ab J J J ?_|refine A0 ?_|refine A9 ?_|refine Aw Ab J J ?_|(refine A1 J J J J J (ht:=fun h=>?_) (hf:=fun h=>?_)<;>try exact prn)|(refine A2 J J J J J (ht:=fun h=>?_) (hf:=fun h=>?_)<;>try exact prn)|refine Ag J J J J J ?_|(refine Al J (ht:=fun h=>?_) (hf:=fun h=>?_)<;>try exact prn)|refine Au ?_|refine Aq ?_|refine Ar ?_|refine A3 ?_|refine Aj Ab J J J J J J J (Ac Z) J ?_|refine Ae Ab J J J J J J J Z (Ac Z) J ?_|refine Ah Ab J J J J J J J J J J J J J (by simp[Ad];omega) ?_|refine Af Ab J J J J J J J J J J J J J J (by simp[Ad];omega) ?_|refine A8 Ab J J J J J (fun _=>rfl) (fun b hb=>?_)|refine AD (id:=3) (m:=3) Ab U J J J J ?_|refine As J J J J ?_|refine A4 ?_|(refine A5 J J J J J (ht:=fun h=>?_) (hf:=fun h=>?_)<;>try exact prn)|(refine A6 J J J J J (ht:=fun h=>?_) (hf:=fun h=>?_)<;>try exact prn)|refine Ai J J J J J ?_|refine An J J J J J J J (Ac Z) J ?_|refine Ao J J J J J J J Z (Ac Z) J ?_|refine A7 Ab J J J J J J J (c1) J J ?_|refine A7 Ab J J J J J J J (c2) J J ?_|refine A7 Ab J J J J J J J (cr) J J ?_|refine H1 Ab J J J J (cs) J J J ⟨Sub.refl _,BM (show Dm _ _ from⟨Sub.refl _,Sub.refl _,Sub.refl _,Sub.refl _,Sub.refl _,AY,trivial⟩),trivial⟩ ?_)
     all_goals first|exact AC J (Sub.of_eq J)|(exfalso;omega)
    |false=>
     rw[hr]at cr
     refine ct0 Ab Tryz.func25 J false J J ?_
     repeat'(first|refine Ak Ab J J J J J ?_|refine Ap Ab J J J ?_|refine A0 ?_|refine A9 ?_|refine Aw Ab J J ?_|(refine A1 J J J J J (ht:=fun h=>?_) (hf:=fun h=>?_)<;>try exact prn)|(refine A2 J J J J J (ht:=fun h=>?_) (hf:=fun h=>?_)<;>try exact prn)|refine Ag J J J J J ?_|(refine Al J (ht:=fun h=>?_) (hf:=fun h=>?_)<;>try exact prn)|refine Au ?_|refine Aq ?_|refine Ar ?_|refine A3 ?_|refine Aj Ab J J J J J J J (Ac Z) J ?_|refine Ae Ab J J J J J J J Z (Ac Z) J ?_|refine Ah Ab J J J J J J J J J J J J J (by simp[Ad];omega) ?_|refine Af Ab J J J J J J J J J J J J J J (by simp[Ad];omega) ?_|refine A8 Ab J J J J J (fun _=>rfl) (fun b hb=>?_)|refine AD (id:=3) (m:=3) Ab U J J J J ?_|refine As J J J J ?_|refine A4 ?_|(refine A5 J J J J J (ht:=fun h=>?_) (hf:=fun h=>?_)<;>try exact prn)|(refine A6 J J J J J (ht:=fun h=>?_) (hf:=fun h=>?_)<;>try exact prn)|refine Ai J J J J J ?_|refine An J J J J J J J (Ac Z) J ?_|refine Ao J J J J J J J Z (Ac Z) J ?_|refine A7 Ab J J J J J J J (c1) J J ?_|refine A7 Ab J J J J J J J (c2) J J ?_|refine A7 Ab J J J J J J J (cr) J J ?_|refine H1 Ab J J J J (cs) J J J ⟨Sub.refl _,BM (show Dm _ _ from⟨Sub.refl _,Sub.refl _,Sub.refl _,Sub.refl _,Sub.refl _,AY,trivial⟩),trivial⟩ ?_)
     all_goals first|exact AC J (Sub.of_eq J)|(exfalso;omega)
   ·rw[if_neg he]
    have cs:=MT r (C4 r.kind r.e) O
    refine ct0 Ab Tryz.func25 J false J J ?_
    repeat'(first|refine Ak Ab J J J J J ?_|refine Ap Ab J J J ?_|refine A0 ?_|refine A9 ?_|refine Aw Ab J J ?_|(refine A1 J J J J J (ht:=fun h=>?_) (hf:=fun h=>?_)<;>try exact prn)|(refine A2 J J J J J (ht:=fun h=>?_) (hf:=fun h=>?_)<;>try exact prn)|refine Ag J J J J J ?_|(refine Al J (ht:=fun h=>?_) (hf:=fun h=>?_)<;>try exact prn)|refine Au ?_|refine Aq ?_|refine Ar ?_|refine A3 ?_|refine Aj Ab J J J J J J J (Ac Z) J ?_|refine Ae Ab J J J J J J J Z (Ac Z) J ?_|refine Ah Ab J J J J J J J J J J J J J (by simp[Ad];omega) ?_|refine Af Ab J J J J J J J J J J J J J J (by simp[Ad];omega) ?_|refine A8 Ab J J J J J (fun _=>rfl) (fun b hb=>?_)|refine AD (id:=3) (m:=3) Ab U J J J J ?_|refine As J J J J ?_|refine A4 ?_|(refine A5 J J J J J (ht:=fun h=>?_) (hf:=fun h=>?_)<;>try exact prn)|(refine A6 J J J J J (ht:=fun h=>?_) (hf:=fun h=>?_)<;>try exact prn)|refine Ai J J J J J ?_|refine An J J J J J J J (Ac Z) J ?_|refine Ao J J J J J J J Z (Ac Z) J ?_|refine A7 Ab J J J J J J J (c1) J J ?_|refine A7 Ab J J J J J J J (c2) J J ?_|refine A7 Ab J J J J J J J (cr) J J ?_|refine H1 Ab J J J J (cs) J J J ⟨Sub.refl _,BM (show Dm _ _ from⟨Sub.refl _,Sub.refl _,Sub.refl _,Sub.refl _,Sub.refl _,AY,trivial⟩),trivial⟩ ?_)
    all_goals first|exact AC J (Sub.of_eq J)|(exfalso;omega)
  ·rw[decide_eq_true h1]at c1⊢
   rw[decide_eq_false h2]at c2⊢
   refine ct0 Ab Tryz.func25 J false J J ?_
   repeat'(first|refine Ak Ab J J J J J ?_|refine Ap Ab J J J ?_|refine A0 ?_|refine A9 ?_|refine Aw Ab J J ?_|(refine A1 J J J J J (ht:=fun h=>?_) (hf:=fun h=>?_)<;>try exact prn)|(refine A2 J J J J J (ht:=fun h=>?_) (hf:=fun h=>?_)<;>try exact prn)|refine Ag J J J J J ?_|(refine Al J (ht:=fun h=>?_) (hf:=fun h=>?_)<;>try exact prn)|refine Au ?_|refine Aq ?_|refine Ar ?_|refine A3 ?_|refine Aj Ab J J J J J J J (Ac Z) J ?_|refine Ae Ab J J J J J J J Z (Ac Z) J ?_|refine Ah Ab J J J J J J J J J J J J J (by simp[Ad];omega) ?_|refine Af Ab J J J J J J J J J J J J J J (by simp[Ad];omega) ?_|refine A8 Ab J J J J J (fun _=>rfl) (fun b hb=>?_)|refine AD (id:=3) (m:=3) Ab U J J J J ?_|refine As J J J J ?_|refine A4 ?_|(refine A5 J J J J J (ht:=fun h=>?_) (hf:=fun h=>?_)<;>try exact prn)|(refine A6 J J J J J (ht:=fun h=>?_) (hf:=fun h=>?_)<;>try exact prn)|refine Ai J J J J J ?_|refine An J J J J J J J (Ac Z) J ?_|refine Ao J J J J J J J Z (Ac Z) J ?_|refine A7 Ab J J J J J J J (c1) J J ?_|refine A7 Ab J J J J J J J (c2) J J ?_)
   exact AC J (Sub.of_eq J)
 ·rw[decide_eq_false h1]at c1⊢
  refine ct0 Ab Tryz.func25 J false J J ?_
  repeat'(first|refine Ak Ab J J J J J ?_|refine Ap Ab J J J ?_|refine A0 ?_|refine A9 ?_|refine Aw Ab J J ?_|(refine A1 J J J J J (ht:=fun h=>?_) (hf:=fun h=>?_)<;>try exact prn)|(refine A2 J J J J J (ht:=fun h=>?_) (hf:=fun h=>?_)<;>try exact prn)|refine Ag J J J J J ?_|(refine Al J (ht:=fun h=>?_) (hf:=fun h=>?_)<;>try exact prn)|refine Au ?_|refine Aq ?_|refine Ar ?_|refine A3 ?_|refine Aj Ab J J J J J J J (Ac Z) J ?_|refine Ae Ab J J J J J J J Z (Ac Z) J ?_|refine Ah Ab J J J J J J J J J J J J J (by simp[Ad];omega) ?_|refine Af Ab J J J J J J J J J J J J J J (by simp[Ad];omega) ?_|refine A8 Ab J J J J J (fun _=>rfl) (fun b hb=>?_)|refine AD (id:=3) (m:=3) Ab U J J J J ?_|refine As J J J J ?_|refine A4 ?_|(refine A5 J J J J J (ht:=fun h=>?_) (hf:=fun h=>?_)<;>try exact prn)|(refine A6 J J J J J (ht:=fun h=>?_) (hf:=fun h=>?_)<;>try exact prn)|refine Ai J J J J J ?_|refine An J J J J J J J (Ac Z) J ?_|refine Ao J J J J J J J Z (Ac Z) J ?_|refine A7 Ab J J J J J J J (c1) J J ?_)
  exact AC J (Sub.of_eq J)
end Go.Proofs.YthjoclecnacdiaaGreatDoor
