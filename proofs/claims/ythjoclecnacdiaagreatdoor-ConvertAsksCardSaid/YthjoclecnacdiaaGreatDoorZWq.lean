/- The law ConvertAsks: for every input it answers true. -/
import Derived.Test.YthjoclecnacdiaaGreatDoorZM9
import Derived.Test.YthjoclecnacdiaaGreatDoorZM10
import Derived.Test.YthjoclecnacdiaaGreatDoorZM11
import Derived.Test.YthjoclecnacdiaaGreatDoorZWo
import Derived.Test.YthjoclecnacdiaaGreatDoorZWn
import Derived.Test.YthjoclecnacdiaaGreatDoorZWkc
set_option linter.unusedVariables false
set_option linter.unusedSimpArgs false
namespace Go.Proofs.YthjoclecnacdiaaGreatDoor
open Go.Am
attribute [local irreducible] Decidable.decide
set_option maxRecDepth 100000
set_option maxHeartbeats 1000000
theorem Ti (r:Req) (l:List Table) (h:r.b.recs.length≤60):(GF r l).b.recs.length≤1000000:=by
 unfold GF
 repeat' split
 all_goals(first|(simp[FA,EB];done)|omega|(dsimp only;omega))
theorem Qk (r:Reply) (i:Int) (l:List Table) (h:r.rows.length≤200):(BT r i l).rows.length≤1000000:=by
 unfold BT
 repeat' split
 all_goals(first|(simp[C4];done)|omega|(simp;omega))
theorem Mc (r:Req) (x:Reply) (i:Int) (l:List Table):Ct Tryz.prog 3 [.agg (AA (BU r)),.agg (AA (AH x)),.t (.int .i64 i),.t (.slice .any 3 (l.map AN))] [] (.t (.bool true)) []:=by
 refine ct0 Ab Tryz.func3 J false J J ?_
 repeat'(first|refine Ak Ab J J J J J ?_|refine Ap Ab J J J ?_|refine A0 ?_|refine A9 ?_|refine Aw Ab J J ?_|(refine A1 J J J J J (ht:=fun h=>?_) (hf:=fun h=>?_)<;>try exact prn)|(refine A2 J J J J J (ht:=fun h=>?_) (hf:=fun h=>?_)<;>try exact prn)|refine Ag J J J J J ?_|(refine Al J (ht:=fun h=>?_) (hf:=fun h=>?_)<;>try exact prn)|refine Au ?_|refine Aq ?_|refine Ar ?_|refine A3 ?_|refine Aj Ab J J J J J J J (Ac Z) J ?_|refine Ae Ab J J J J J J J Z (Ac Z) J ?_|refine Ah Ab J J J J J J J J J J J J J (by simp[Ad];omega) ?_|refine Af Ab J J J J J J J J J J J J J J (by simp[Ad];omega) ?_|refine A8 Ab J J J J J (fun _=>rfl) (fun b hb=>?_)|refine As J J J J ?_|refine A4 ?_|(refine A5 J J J J J (ht:=fun h=>?_) (hf:=fun h=>?_)<;>try exact prn)|(refine A6 J J J J J (ht:=fun h=>?_) (hf:=fun h=>?_)<;>try exact prn)|refine Ai J J J J J ?_|refine An J J J J J J J (Ac Z) J ?_|refine Ao J J J J J J J Z (Ac Z) J ?_|refine EF Ab [] [] J J J J J (SU r) J (fun _ _=>rfl) (fun _ _=>rfl) (fun _ _=>rfl) (fun g1 hg1=>?_)|refine EF Ab [] [] J J J J J (ST x) J (fun _ _=>rfl) (fun _ _=>rfl) (fun _ _=>rfl) (fun g2 hg2=>?_)|refine EF Ab [] [] J J J J J (QP l) J (fun _ _=>rfl) (fun _ _=>rfl) (fun _ _=>rfl) (fun g3 hg3=>?_)|refine A7 Ab J J J J J J J (Om) J J ?_)
 all_goals try exact AC J (Sub.of_eq J)
 have e1:g1=false:=Bool.eq_false_iff.2 Z
 have e2:g2=false:=Bool.eq_false_iff.2 Z
 have e3:g3=false:=Bool.eq_false_iff.2 Z
 have f1:=hg1 e1
 have f2:=hg2 e2
 obtain⟨f3,f4⟩:=hg3 e3
 have hs:II l:=⟨by omega,fun t ht=>Nat.le_trans (f4 t ht) Aa⟩
 have ca:=VW r l O hs
 have cb:=TO r l O hs
 have cc:=Ty x i l O hs
 have cd:=Sy x i l O hs
 have s8:=Ln (GF r l) (GF r l) (Ti r l f1)
 have s9:=O6 (BT x i l) (BT x i l) (Qk x i l f2)
 rw[decide_eq_true J]at s8 s9
 repeat'(first|refine Ak Ab J J J J J ?_|refine Ap Ab J J J ?_|refine A0 ?_|refine A9 ?_|refine Aw Ab J J ?_|(refine A1 J J J J J (ht:=fun h=>?_) (hf:=fun h=>?_)<;>try exact prn)|(refine A2 J J J J J (ht:=fun h=>?_) (hf:=fun h=>?_)<;>try exact prn)|refine Ag J J J J J ?_|(refine Al J (ht:=fun h=>?_) (hf:=fun h=>?_)<;>try exact prn)|refine Au ?_|refine Aq ?_|refine Ar ?_|refine A3 ?_|refine Aj Ab J J J J J J J (Ac Z) J ?_|refine Ae Ab J J J J J J J Z (Ac Z) J ?_|refine Ah Ab J J J J J J J J J J J J J (by simp[Ad];omega) ?_|refine Af Ab J J J J J J J J J J J J J J (by simp[Ad];omega) ?_|refine A8 Ab J J J J J (fun _=>rfl) (fun b hb=>?_)|refine As J J J J ?_|refine A4 ?_|(refine A5 J J J J J (ht:=fun h=>?_) (hf:=fun h=>?_)<;>try exact prn)|(refine A6 J J J J J (ht:=fun h=>?_) (hf:=fun h=>?_)<;>try exact prn)|refine Ai J J J J J ?_|refine An J J J J J J J (Ac Z) J ?_|refine Ao J J J J J J J Z (Ac Z) J ?_|refine A7 Ab J J J J J J J (ca) J J ?_|refine A7 Ab J J J J J J J (cb) J J ?_|refine A7 Ab J J J J J J J (cc) J J ?_|refine A7 Ab J J J J J J J (cd) J J ?_|refine A7 Ab J J J J J J J (s8) J J ?_|refine A7 Ab J J J J J J J (s9) J J ?_|refine A7 Ab J J J J J J J (Om) J J ?_)
 all_goals exact AC J (Sub.of_eq J)
end Go.Proofs.YthjoclecnacdiaaGreatDoor
