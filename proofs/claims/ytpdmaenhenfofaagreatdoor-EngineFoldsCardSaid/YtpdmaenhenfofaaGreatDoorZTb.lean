/- EngineApart, whole. -/
import Derived.Test.YtpdmaenhenfofaaGreatDoorZM10
import Derived.Test.YtpdmaenhenfofaaGreatDoorZJ13
import Derived.Test.YtpdmaenhenfofaaGreatDoorZJ12
import Derived.Test.YtpdmaenhenfofaaGreatDoorZJ7
set_option linter.unusedVariables false
set_option linter.unusedSimpArgs false
namespace Go.Proofs.YtpdmaenhenfofaaGreatDoor
open Go.Am
attribute [local irreducible] Decidable.decide
set_option maxRecDepth 100000
set_option maxHeartbeats 1000000
theorem Km {l:List Batch} (h:EW l=false):l.length≤40∧ ∀b∈l,b.recs.length≤40:=by
 simp only[EW,Bool.or_eq_false_iff,decide_eq_false_iff_not]at h
 refine⟨by omega,fun b hb=>?_⟩
 have:=List.any_eq_false.1 h.2 b hb
 simp only[Iv,Bool.or_eq_true,decide_eq_true_eq,not_or]at this
 omega
theorem Aox {α:Type} {f:α→Int} {x:α} {l:List α}:(Et f x l).length≤l.length+1:=by
 have h1: ∀{l:List α},(l.filter (fun y=>decide (f y<f x))).length+(l.filter (fun y=>decide (f x<f y))).length≤l.length:=by
  intro l
  induction l with
  |nil=>simp
  |cons a r ih=>
   simp only[List.filter_cons,List.length_cons]
   by_cases c1:f a<f x
   ·have c2: ¬f x<f a:=by omega
    simp only[c1,c2,decide_true,decide_false,if_true,Bool.false_eq_true,if_false,List.length_cons];omega
   ·by_cases c2:f x<f a
    ·simp only[c1,c2,decide_true,decide_false,if_true,Bool.false_eq_true,if_false,List.length_cons];omega
    ·simp only[c1,c2,decide_false,Bool.false_eq_true,if_false];omega
 have:= @h1 l
 simp only[Et,List.length_append,List.length_cons]
 omega
end Go.Proofs.YtpdmaenhenfofaaGreatDoor
