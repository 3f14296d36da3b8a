/- Contracts of the program: entries that may be. -/
import Derived.Test.YtpdmaenhenfofaaGreatDoorPf
set_option linter.unusedVariables false
set_option linter.unusedSimpArgs false
namespace Go.Proofs.YtpdmaenhenfofaaGreatDoor
open Go.Am
attribute [local irreducible] Decidable.decide
set_option maxRecDepth 100000
set_option maxHeartbeats 1000000

def KnownOk : Prop := ∀ p : Prod, p.seen.length ≤ 1000000 → Ct Tryz.prog 155 [.agg (liftT (encProd p))] [] (.t (.bool (knownP p))) []
def kindE (k : Int) : Entry := ⟨k, b0, false, 0, 0, row0, prod0⟩

theorem mk_and {a b c d : Bool} {p q : Prop} [Decidable p] [Decidable q] (h : a = true → (p ↔ q)) : (a && decide p) = (decide q && a) := by
  cases a with
  | false => simp
  | true => simp [h rfl]

theorem emk0 {x : Entry} (hk : x.kind = 0) : (mayBatch x.b && decide ((⟨x.kind, b0, x.yes, x.next, x.offset, x.row, x.prod⟩ : Entry) = kindE x.kind)) = mayE x := by
  unfold mayE isBare bareE
  simp only [hk, if_true, if_false, Int.reduceEq]
  rcases x with ⟨k1, ⟨p1, e1, s1, t1, r1⟩, y1, n1, o1, ⟨ro1, rp1, rs1, rk1, rv1⟩, ⟨pp1, pe1, pn1, ps1⟩⟩
  simp only at hk
  subst hk
  rw [Bool.eq_iff_iff]
  simp [kindE, bareB]
  try grind

theorem emay0 (hK : KnownOk) (x : Entry) (hk : x.kind = 0) (ha : x.b.recs.length ≤ 1000000) (hp : x.prod.seen.length ≤ 1000000) : Ct Tryz.prog 109 [.agg (liftT (encEntry x))] [] (.t (.bool (mayE x))) [] := by
  rw [← emk0 hk]
  refine ct0 progOk Tryz.func109 rfl false rfl rfl ?_
  repeat' (first | refine w_stepZ progOk rfl rfl rfl rfl rfl ?_ | refine w_step progOk rfl rfl rfl ?_ | refine w_nil ?_ | refine w_seq ?_ | refine w_reg progOk rfl rfl ?_ | (refine w_gTP rfl rfl rfl rfl rfl (ht := fun h => ?_) (hf := fun h => ?_) <;> try exact prn) | (refine w_gFP rfl rfl rfl rfl rfl (ht := fun h => ?_) (hf := fun h => ?_) <;> try exact prn) | refine w_guardU rfl rfl rfl rfl rfl ?_ | (refine w_condP rfl (ht := fun h => ?_) (hf := fun h => ?_) <;> try exact prn) | refine w_block ?_ | refine w_skip ?_ | refine w_exit ?_ | refine w_ret ?_ | refine w_index progOk rfl rfl rfl rfl rfl rfl rfl (map_get (by assumption)) rfl ?_ | refine w_indexE progOk rfl rfl rfl rfl rfl rfl rfl (by assumption) (map_get (by assumption)) rfl ?_ | refine w_appNil progOk rfl rfl rfl rfl rfl rfl rfl rfl rfl rfl rfl rfl rfl (by simp [chunk]; omega) ?_ | refine w_appRow progOk rfl rfl rfl rfl rfl rfl rfl rfl rfl rfl rfl rfl rfl rfl (by simp [chunk]; omega) ?_ | refine s_step rfl rfl rfl rfl ?_ | refine s_nil ?_ | (refine s_gTP rfl rfl rfl rfl rfl (ht := fun h => ?_) (hf := fun h => ?_) <;> try exact prn) | (refine s_gFP rfl rfl rfl rfl rfl (ht := fun h => ?_) (hf := fun h => ?_) <;> try exact prn) | refine s_guardU rfl rfl rfl rfl rfl ?_ | refine s_index rfl rfl rfl rfl rfl rfl rfl (map_get (by assumption)) rfl ?_ | refine w_call progOk rfl rfl rfl rfl rfl rfl rfl (rmay_ok x.b (by omega)) rfl rfl ?_ | refine w_call progOk rfl rfl rfl rfl rfl rfl rfl (eseq_ok _) rfl rfl ?_ | refine w_call progOk rfl rfl rfl rfl rfl rfl rfl (eproducer_ok _ _) rfl rfl ?_ | refine w_call progOk rfl rfl rfl rfl rfl rfl rfl (erow_ok x.row) rfl rfl ?_ | refine w_call progOk rfl rfl rfl rfl rfl rfl rfl (hK x.prod hp) rfl rfl ?_ | refine w_callZ progOk rfl rfl rfl rfl (esame_ok ⟨x.kind, b0, x.yes, x.next, x.offset, x.row, x.prod⟩ (kindE x.kind) (by first | omega | simp) (by first | omega | simp)) rfl rfl rfl ⟨(by repeat' (first | exact Sub.refl _ | exact sub_slNil | exact sub_slice | exact trivial | refine sub_agg ?_ | refine sub_tuple ?_ | refine And.intro ?_ ?_)), (by repeat' (first | exact Sub.refl _ | exact sub_slNil | exact sub_slice | exact trivial | refine sub_agg ?_ | refine sub_tuple ?_ | refine And.intro ?_ ?_)), trivial⟩ ?_ | fail)
  all_goals (refine w_fin rfl (subB ?_); simp [*])

end Go.Proofs.YtpdmaenhenfofaaGreatDoor
