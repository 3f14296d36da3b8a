/- Contracts and laws, joined: Pg, Pg1, Pg2, Pg5, Pg6, Ph, Pi, Pj. No condition beside those that each theorem names. -/
import Derived.Test.YtpdmaenhenfofaaGreatDoorZJ3
set_option linter.unusedVariables false
set_option linter.unusedSimpArgs false
namespace Go.Proofs.YtpdmaenhenfofaaGreatDoor
open Go.Am
attribute [local irreducible] Decidable.decide
set_option maxRecDepth 100000
set_option maxHeartbeats 1000000
def KnownOk : Prop := ∀ p : Prod, p.seen.length ≤ 1000000 → Ct Tryz.prog 155 [.agg (liftT (encProd p))] [] (.t (.bool (knownP p))) []
def kindE (k : Int) : Entry := ⟨k, b0, false, 0, 0, row0, prod0⟩
theorem emk0 {x : Entry} (hk : x.kind = 0) : (mayBatch x.b && decide ((⟨x.kind, b0, x.yes, x.next, x.offset, x.row, x.prod⟩ : Entry) = kindE x.kind)) = mayE x := by
  unfold mayE isBare bareE
  simp only [hk, if_true, if_false, Int.reduceEq]
  rcases x with ⟨k1, ⟨p1, e1, s1, t1, r1⟩, y1, n1, o1, ⟨ro1, rp1, rs1, rk1, rv1⟩, ⟨pp1, pe1, pn1, ps1⟩⟩
  simp only at hk
  subst hk
  rw [Bool.eq_iff_iff]
  simp [kindE, bareB]
  try grind
theorem emay0 (hK : KnownOk) (x : Entry) (hk : x.kind = 0) (ha : x.b.recs.length ≤ 1000000) (hp : x.prod.seen.length ≤ 1000000) : Ct Tryz.prog 109 [.agg (liftT (encEntry x))] [] (.t (.bool (mayE x))) [] := by
  rw [← emk0 hk]
  refine ct0 progOk Tryz.func109 rfl false rfl rfl ?_
  repeat' (first | refine w_stepZ progOk rfl rfl rfl rfl rfl ?_ | refine w_step progOk rfl rfl rfl ?_ | refine w_nil ?_ | refine w_seq ?_ | refine w_reg progOk rfl rfl ?_ | (refine w_gTP rfl rfl rfl rfl rfl (ht := fun h => ?_) (hf := fun h => ?_) <;> try exact prn) | (refine w_condP rfl (ht := fun h => ?_) (hf := fun h => ?_) <;> try exact prn) | refine w_block ?_ | refine w_skip ?_ | refine w_exit ?_ | refine w_ret ?_ | refine w_call progOk rfl rfl rfl rfl rfl rfl rfl (rmay_ok x.b (by omega)) rfl rfl ?_ | refine w_callZ progOk rfl rfl rfl rfl (esame_ok ⟨x.kind, b0, x.yes, x.next, x.offset, x.row, x.prod⟩ (kindE x.kind) (by first | omega | simp) (by first | omega | simp)) rfl rfl rfl ⟨(by repeat' (first | exact Sub.refl _ | exact sub_slNil | exact sub_slice | exact trivial | refine sub_agg ?_ | refine sub_tuple ?_ | refine And.intro ?_ ?_)), (by repeat' (first | exact Sub.refl _ | exact sub_slNil | exact sub_slice | exact trivial | refine sub_agg ?_ | refine sub_tuple ?_ | refine And.intro ?_ ?_)), trivial⟩ ?_ | fail)
  all_goals (refine w_fin rfl (subB ?_); simp [*])
end Go.Proofs.YtpdmaenhenfofaaGreatDoor

namespace Go.Proofs.YtpdmaenhenfofaaGreatDoor
open Go.Am
attribute [local irreducible] Decidable.decide
set_option maxRecDepth 100000
set_option maxHeartbeats 1000000
theorem emk1 {x : Entry} (hk : x.kind = 1) : (decide (1 ≤ x.b.pid ∧ x.b.pid ≤ 8 ∧ 0 ≤ x.b.epoch ∧ x.b.epoch ≤ 100) && decide ((⟨x.kind, ⟨0, 0, x.b.seq, x.b.txn, x.b.recs⟩, false, x.next, x.offset, x.row, x.prod⟩ : Entry) = kindE x.kind)) = mayE x := by
  unfold mayE isBare bareE
  simp only [hk, if_true, if_false, Int.reduceEq]
  rcases x with ⟨k1, ⟨p1, e1, s1, t1, r1⟩, y1, n1, o1, ⟨ro1, rp1, rs1, rk1, rv1⟩, ⟨pp1, pe1, pn1, ps1⟩⟩
  simp only at hk
  subst hk
  rw [Bool.eq_iff_iff]
  simp [kindE, bareB]
  try grind
theorem emay1 (hK : KnownOk) (x : Entry) (hk : x.kind = 1) (ha : x.b.recs.length ≤ 1000000) (hp : x.prod.seen.length ≤ 1000000) : Ct Tryz.prog 109 [.agg (liftT (encEntry x))] [] (.t (.bool (mayE x))) [] := by
  rw [← emk1 hk]
  refine ct0 progOk Tryz.func109 rfl false rfl rfl ?_
  repeat' (first | refine w_stepZ progOk rfl rfl rfl rfl rfl ?_ | refine w_step progOk rfl rfl rfl ?_ | refine w_nil ?_ | refine w_seq ?_ | refine w_reg progOk rfl rfl ?_ | (refine w_gTP rfl rfl rfl rfl rfl (ht := fun h => ?_) (hf := fun h => ?_) <;> try exact prn) | (refine w_condP rfl (ht := fun h => ?_) (hf := fun h => ?_) <;> try exact prn) | refine w_block ?_ | refine w_skip ?_ | refine w_exit ?_ | refine w_ret ?_ | refine w_call progOk rfl rfl rfl rfl rfl rfl rfl (eproducer_ok _ _) rfl rfl ?_ | refine w_callZ progOk rfl rfl rfl rfl (esame_ok ⟨x.kind, ⟨0, 0, x.b.seq, x.b.txn, x.b.recs⟩, false, x.next, x.offset, x.row, x.prod⟩ (kindE x.kind) (by first | omega | simp) (by first | omega | simp)) rfl rfl rfl ⟨(by repeat' (first | exact Sub.refl _ | exact sub_slNil | exact sub_slice | exact trivial | refine sub_agg ?_ | refine sub_tuple ?_ | refine And.intro ?_ ?_)), (by repeat' (first | exact Sub.refl _ | exact sub_slNil | exact sub_slice | exact trivial | refine sub_agg ?_ | refine sub_tuple ?_ | refine And.intro ?_ ?_)), trivial⟩ ?_ | fail)
  all_goals (refine w_fin rfl (subB ?_); simp [*])
end Go.Proofs.YtpdmaenhenfofaaGreatDoor

namespace Go.Proofs.YtpdmaenhenfofaaGreatDoor
open Go.Am
attribute [local irreducible] Decidable.decide
set_option maxRecDepth 100000
set_option maxHeartbeats 1000000
theorem emk2 {x : Entry} (hk : x.kind = 2) : (decide (0 ≤ x.offset ∧ x.offset ≤ 1048576) && decide ((⟨x.kind, x.b, x.yes, x.next, 0, x.row, x.prod⟩ : Entry) = kindE x.kind)) = mayE x := by
  unfold mayE isBare bareE
  simp only [hk, if_true, if_false, Int.reduceEq]
  rcases x with ⟨k1, ⟨p1, e1, s1, t1, r1⟩, y1, n1, o1, ⟨ro1, rp1, rs1, rk1, rv1⟩, ⟨pp1, pe1, pn1, ps1⟩⟩
  simp only at hk
  subst hk
  rw [Bool.eq_iff_iff]
  simp [kindE, bareB]
  try grind
theorem emay2 (hK : KnownOk) (x : Entry) (hk : x.kind = 2) (ha : x.b.recs.length ≤ 1000000) (hp : x.prod.seen.length ≤ 1000000) : Ct Tryz.prog 109 [.agg (liftT (encEntry x))] [] (.t (.bool (mayE x))) [] := by
  rw [← emk2 hk]
  refine ct0 progOk Tryz.func109 rfl false rfl rfl ?_
  repeat' (first | refine w_stepZ progOk rfl rfl rfl rfl rfl ?_ | refine w_step progOk rfl rfl rfl ?_ | refine w_nil ?_ | refine w_seq ?_ | refine w_reg progOk rfl rfl ?_ | (refine w_gTP rfl rfl rfl rfl rfl (ht := fun h => ?_) (hf := fun h => ?_) <;> try exact prn) | (refine w_condP rfl (ht := fun h => ?_) (hf := fun h => ?_) <;> try exact prn) | refine w_block ?_ | refine w_skip ?_ | refine w_exit ?_ | refine w_ret ?_ | refine w_callZ progOk rfl rfl rfl rfl (esame_ok ⟨x.kind, x.b, x.yes, x.next, 0, x.row, x.prod⟩ (kindE x.kind) (by first | omega | simp) (by first | omega | simp)) rfl rfl rfl ⟨(by repeat' (first | exact Sub.refl _ | exact sub_slNil | exact sub_slice | exact trivial | refine sub_agg ?_ | refine sub_tuple ?_ | refine And.intro ?_ ?_)), (by repeat' (first | exact Sub.refl _ | exact sub_slNil | exact sub_slice | exact trivial | refine sub_agg ?_ | refine sub_tuple ?_ | refine And.intro ?_ ?_)), trivial⟩ ?_ | fail)
  all_goals (refine w_fin rfl (subB ?_); simp [*])
end Go.Proofs.YtpdmaenhenfofaaGreatDoor

namespace Go.Proofs.YtpdmaenhenfofaaGreatDoor
open Go.Am
attribute [local irreducible] Decidable.decide
set_option maxRecDepth 100000
set_option maxHeartbeats 1000000
theorem emk5 {x : Entry} (hk : x.kind = 5) : ((decide (x.row.offset = 0) && mayRow x.row) && decide ((⟨x.kind, x.b, x.yes, x.next, x.offset, row0, x.prod⟩ : Entry) = kindE x.kind)) = mayE x := by
  unfold mayE isBare bareE
  simp only [hk, if_true, if_false, Int.reduceEq]
  rcases x with ⟨k1, ⟨p1, e1, s1, t1, r1⟩, y1, n1, o1, ⟨ro1, rp1, rs1, rk1, rv1⟩, ⟨pp1, pe1, pn1, ps1⟩⟩
  simp only at hk
  subst hk
  rw [Bool.eq_iff_iff]
  simp [kindE, bareB]
  try grind
theorem emay5 (hK : KnownOk) (x : Entry) (hk : x.kind = 5) (ha : x.b.recs.length ≤ 1000000) (hp : x.prod.seen.length ≤ 1000000) : Ct Tryz.prog 109 [.agg (liftT (encEntry x))] [] (.t (.bool (mayE x))) [] := by
  rw [← emk5 hk]
  refine ct0 progOk Tryz.func109 rfl false rfl rfl ?_
  repeat' (first | refine w_stepZ progOk rfl rfl rfl rfl rfl ?_ | refine w_step progOk rfl rfl rfl ?_ | refine w_nil ?_ | refine w_seq ?_ | refine w_reg progOk rfl rfl ?_ | (refine w_gTP rfl rfl rfl rfl rfl (ht := fun h => ?_) (hf := fun h => ?_) <;> try exact prn) | (refine w_condP rfl (ht := fun h => ?_) (hf := fun h => ?_) <;> try exact prn) | refine w_block ?_ | refine w_skip ?_ | refine w_exit ?_ | refine w_ret ?_ | refine w_call progOk rfl rfl rfl rfl rfl rfl rfl (erow_ok x.row) rfl rfl ?_ | refine w_callZ progOk rfl rfl rfl rfl (esame_ok ⟨x.kind, x.b, x.yes, x.next, x.offset, row0, x.prod⟩ (kindE x.kind) (by first | omega | simp) (by first | omega | simp)) rfl rfl rfl ⟨(by repeat' (first | exact Sub.refl _ | exact sub_slNil | exact sub_slice | exact trivial | refine sub_agg ?_ | refine sub_tuple ?_ | refine And.intro ?_ ?_)), (by repeat' (first | exact Sub.refl _ | exact sub_slNil | exact sub_slice | exact trivial | refine sub_agg ?_ | refine sub_tuple ?_ | refine And.intro ?_ ?_)), trivial⟩ ?_ | fail)
  all_goals (refine w_fin rfl (subB ?_); simp [*])
end Go.Proofs.YtpdmaenhenfofaaGreatDoor

namespace Go.Proofs.YtpdmaenhenfofaaGreatDoor
open Go.Am
attribute [local irreducible] Decidable.decide
set_option maxRecDepth 100000
set_option maxHeartbeats 1000000
theorem emk6 {x : Entry} (hk : x.kind = 6) : (knownP x.prod && decide ((⟨x.kind, x.b, x.yes, x.next, x.offset, x.row, prod0⟩ : Entry) = kindE x.kind)) = mayE x := by
  unfold mayE isBare bareE
  simp only [hk, if_true, if_false, Int.reduceEq]
  rcases x with ⟨k1, ⟨p1, e1, s1, t1, r1⟩, y1, n1, o1, ⟨ro1, rp1, rs1, rk1, rv1⟩, ⟨pp1, pe1, pn1, ps1⟩⟩
  simp only at hk
  subst hk
  rw [Bool.eq_iff_iff]
  simp [kindE, bareB]
  try grind
theorem emay6 (hK : KnownOk) (x : Entry) (hk : x.kind = 6) (ha : x.b.recs.length ≤ 1000000) (hp : x.prod.seen.length ≤ 1000000) : Ct Tryz.prog 109 [.agg (liftT (encEntry x))] [] (.t (.bool (mayE x))) [] := by
  rw [← emk6 hk]
  refine ct0 progOk Tryz.func109 rfl false rfl rfl ?_
  repeat' (first | refine w_stepZ progOk rfl rfl rfl rfl rfl ?_ | refine w_step progOk rfl rfl rfl ?_ | refine w_nil ?_ | refine w_seq ?_ | refine w_reg progOk rfl rfl ?_ | (refine w_gTP rfl rfl rfl rfl rfl (ht := fun h => ?_) (hf := fun h => ?_) <;> try exact prn) | (refine w_condP rfl (ht := fun h => ?_) (hf := fun h => ?_) <;> try exact prn) | refine w_block ?_ | refine w_skip ?_ | refine w_exit ?_ | refine w_ret ?_ | refine w_call progOk rfl rfl rfl rfl rfl rfl rfl (hK x.prod hp) rfl rfl ?_ | refine w_callZ progOk rfl rfl rfl rfl (esame_ok ⟨x.kind, x.b, x.yes, x.next, x.offset, x.row, prod0⟩ (kindE x.kind) (by first | omega | simp) (by first | omega | simp)) rfl rfl rfl ⟨(by repeat' (first | exact Sub.refl _ | exact sub_slNil | exact sub_slice | exact trivial | refine sub_agg ?_ | refine sub_tuple ?_ | refine And.intro ?_ ?_)), (by repeat' (first | exact Sub.refl _ | exact sub_slNil | exact sub_slice | exact trivial | refine sub_agg ?_ | refine sub_tuple ?_ | refine And.intro ?_ ?_)), trivial⟩ ?_ | fail)
  all_goals (refine w_fin rfl (subB ?_); simp [*])
end Go.Proofs.YtpdmaenhenfofaaGreatDoor

namespace Go.Proofs.YtpdmaenhenfofaaGreatDoor
open Go.Am
attribute [local irreducible] Decidable.decide
set_option maxRecDepth 100000
set_option maxHeartbeats 1000000
theorem emk4 {x : Entry} (hk : x.kind = 4) : (!x.yes && decide (0 ≤ x.next ∧ x.next ≤ 1048576) && decide (1 ≤ x.b.pid ∧ x.b.pid ≤ 8 ∧ 0 ≤ x.b.epoch ∧ x.b.epoch ≤ 100) && decide ((⟨x.kind, ⟨0, 0, x.b.seq, x.b.txn, x.b.recs⟩, false, 0, x.offset, x.row, x.prod⟩ : Entry) = kindE x.kind)) = mayE x := by
  unfold mayE isBare bareE
  simp only [hk, if_true, if_false, Int.reduceEq]
  rcases x with ⟨k1, ⟨p1, e1, s1, t1, r1⟩, y1, n1, o1, ⟨ro1, rp1, rs1, rk1, rv1⟩, ⟨pp1, pe1, pn1, ps1⟩⟩
  simp only at hk
  subst hk
  rw [Bool.eq_iff_iff]
  simp [kindE, bareB]
  try grind
theorem emay4 (x : Entry) (hk : x.kind = 4) (ha : x.b.recs.length ≤ 1000000) (hp : x.prod.seen.length ≤ 1000000) : Ct Tryz.prog 109 [.agg (liftT (encEntry x))] [] (.t (.bool (mayE x))) [] := by
  rw [← emk4 hk]
  refine ct0 progOk Tryz.func109 rfl false rfl rfl ?_
  repeat' (first | refine w_stepZ progOk rfl rfl rfl rfl rfl ?_ | refine w_step progOk rfl rfl rfl ?_ | refine w_nil ?_ | refine w_seq ?_ | refine w_reg progOk rfl rfl ?_ | (refine w_gTP rfl rfl rfl rfl rfl (ht := fun h => ?_) (hf := fun h => ?_) <;> try exact prn) | (refine w_gFP rfl rfl rfl rfl rfl (ht := fun h => ?_) (hf := fun h => ?_) <;> try exact prn) | (refine w_condP rfl (ht := fun h => ?_) (hf := fun h => ?_) <;> try exact prn) | refine w_block ?_ | refine w_skip ?_ | refine w_exit ?_ | refine w_ret ?_ | refine w_call progOk rfl rfl rfl rfl rfl rfl rfl (eseq_ok _) rfl rfl ?_ | refine w_call progOk rfl rfl rfl rfl rfl rfl rfl (eproducer_ok _ _) rfl rfl ?_ | refine w_callZ progOk rfl rfl rfl rfl (esame_ok ⟨x.kind, ⟨0, 0, x.b.seq, x.b.txn, x.b.recs⟩, false, 0, x.offset, x.row, x.prod⟩ (kindE x.kind) (by first | omega | simp) (by first | omega | simp)) rfl rfl rfl ⟨(by repeat' (first | exact Sub.refl _ | exact sub_slNil | exact sub_slice | exact trivial | refine sub_agg ?_ | refine sub_tuple ?_ | refine And.intro ?_ ?_)), (by repeat' (first | exact Sub.refl _ | exact sub_slNil | exact sub_slice | exact trivial | refine sub_agg ?_ | refine sub_tuple ?_ | refine And.intro ?_ ?_)), trivial⟩ ?_ | fail)
  all_goals (refine w_fin rfl (subB ?_); (try simp only [Decidable.not_not] at *); simp [*])
end Go.Proofs.YtpdmaenhenfofaaGreatDoor

namespace Go.Proofs.YtpdmaenhenfofaaGreatDoor
open Go.Am
attribute [local irreducible] Decidable.decide
set_option maxRecDepth 100000
set_option maxHeartbeats 1000000
def rest3 (x : Entry) : Entry := if x.yes = true then ⟨x.kind, b0, false, 0, x.offset, x.row, x.prod⟩ else ⟨x.kind, b0, x.yes, x.next, x.offset, x.row, x.prod⟩
theorem emk3 {x : Entry} (hk : x.kind = 3) : (x.b.txn && (!x.yes || decide (0 ≤ x.next ∧ x.next ≤ 1048576)) && mayBatch x.b && decide (rest3 x = kindE x.kind)) = mayE x := by
  unfold mayE isBare bareE rest3
  simp only [hk, if_true, if_false, Int.reduceEq]
  generalize mayBatch x.b = mb
  rcases x with ⟨k1, ⟨p1, e1, s1, t1, r1⟩, y1, n1, o1, ⟨ro1, rp1, rs1, rk1, rv1⟩, ⟨pp1, pe1, pn1, ps1⟩⟩
  simp only at hk
  subst hk
  rw [Bool.eq_iff_iff]
  cases y1 <;> simp [kindE, bareB] <;> grind
theorem emay3 (x : Entry) (hk : x.kind = 3) (ha : x.b.recs.length ≤ 1000000) (hp : x.prod.seen.length ≤ 1000000) : Ct Tryz.prog 109 [.agg (liftT (encEntry x))] [] (.t (.bool (mayE x))) [] := by
  rw [← emk3 hk]
  refine ct0 progOk Tryz.func109 rfl false rfl rfl ?_
  by_cases hy : x.yes = true
  · have hr : rest3 x = ⟨x.kind, b0, false, 0, x.offset, x.row, x.prod⟩ := by simp [rest3, hy]
    rw [hr]
    repeat' (first | refine w_stepZ progOk rfl rfl rfl rfl rfl ?_ | refine w_step progOk rfl rfl rfl ?_ | refine w_nil ?_ | refine w_seq ?_ | refine w_reg progOk rfl rfl ?_ | (refine w_gTP rfl rfl rfl rfl rfl (ht := fun h => ?_) (hf := fun h => ?_) <;> try exact prn) | (refine w_gFP rfl rfl rfl rfl rfl (ht := fun h => ?_) (hf := fun h => ?_) <;> try exact prn) | refine w_guardU rfl rfl rfl rfl rfl ?_ | (refine w_condP rfl (ht := fun h => ?_) (hf := fun h => ?_) <;> try exact prn) | refine w_block ?_ | refine w_skip ?_ | refine w_exit ?_ | refine w_ret ?_ | refine w_call progOk rfl rfl rfl rfl rfl rfl rfl (rmay_ok x.b (by omega)) rfl rfl ?_ | refine w_call progOk rfl rfl rfl rfl rfl rfl rfl (eseq_ok _) rfl rfl ?_ | refine w_callZ progOk rfl rfl rfl rfl (esame_ok ⟨x.kind, b0, false, 0, x.offset, x.row, x.prod⟩ (kindE x.kind) (by first | omega | simp) (by first | omega | simp)) rfl rfl rfl ⟨(by repeat' (first | exact Sub.refl _ | exact sub_slNil | exact sub_slice | exact trivial | refine sub_agg ?_ | refine sub_tuple ?_ | refine And.intro ?_ ?_)), (by repeat' (first | exact Sub.refl _ | exact sub_slNil | exact sub_slice | exact trivial | refine sub_agg ?_ | refine sub_tuple ?_ | refine And.intro ?_ ?_)), trivial⟩ ?_ | fail)
    all_goals (refine w_fin rfl (subB ?_); clear hr; (try simp only [Decidable.not_not] at *); simp [*])
  · have hr : rest3 x = ⟨x.kind, b0, x.yes, x.next, x.offset, x.row, x.prod⟩ := by simp [rest3, hy]
    rw [hr]
    repeat' (first | refine w_stepZ progOk rfl rfl rfl rfl rfl ?_ | refine w_step progOk rfl rfl rfl ?_ | refine w_nil ?_ | refine w_seq ?_ | refine w_reg progOk rfl rfl ?_ | (refine w_gTP rfl rfl rfl rfl rfl (ht := fun h => ?_) (hf := fun h => ?_) <;> try exact prn) | (refine w_gFP rfl rfl rfl rfl rfl (ht := fun h => ?_) (hf := fun h => ?_) <;> try exact prn) | refine w_guardU rfl rfl rfl rfl rfl ?_ | (refine w_condP rfl (ht := fun h => ?_) (hf := fun h => ?_) <;> try exact prn) | refine w_block ?_ | refine w_skip ?_ | refine w_exit ?_ | refine w_ret ?_ | refine w_call progOk rfl rfl rfl rfl rfl rfl rfl (rmay_ok x.b (by omega)) rfl rfl ?_ | refine w_callZ progOk rfl rfl rfl rfl (esame_ok ⟨x.kind, b0, x.yes, x.next, x.offset, x.row, x.prod⟩ (kindE x.kind) (by first | omega | simp) (by first | omega | simp)) rfl rfl rfl ⟨(by repeat' (first | exact Sub.refl _ | exact sub_slNil | exact sub_slice | exact trivial | refine sub_agg ?_ | refine sub_tuple ?_ | refine And.intro ?_ ?_)), (by repeat' (first | exact Sub.refl _ | exact sub_slNil | exact sub_slice | exact trivial | refine sub_agg ?_ | refine sub_tuple ?_ | refine And.intro ?_ ?_)), trivial⟩ ?_ | fail)
    all_goals (refine w_fin rfl (subB ?_); clear hr; (try simp only [Decidable.not_not] at *); simp [*])
end Go.Proofs.YtpdmaenhenfofaaGreatDoor

namespace Go.Proofs.YtpdmaenhenfofaaGreatDoor
open Go.Am
attribute [local irreducible] Decidable.decide
set_option maxRecDepth 100000
set_option maxHeartbeats 1000000
theorem emayO (x : Entry) (h0 : x.kind ≠ 0) (h1 : x.kind ≠ 1) (h2 : x.kind ≠ 2) (h3 : x.kind ≠ 3) (h4 : x.kind ≠ 4) (h5 : x.kind ≠ 5) (h6 : x.kind ≠ 6) : Ct Tryz.prog 109 [.agg (liftT (encEntry x))] [] (.t (.bool (mayE x))) [] := by
  refine ct0 progOk Tryz.func109 rfl false rfl rfl ?_
  repeat' (first | refine w_stepZ progOk rfl rfl rfl rfl rfl ?_ | refine w_step progOk rfl rfl rfl ?_ | refine w_nil ?_ | refine w_seq ?_ | refine w_reg progOk rfl rfl ?_ | (refine w_gTP rfl rfl rfl rfl rfl (ht := fun h => ?_) (hf := fun h => ?_) <;> try exact prn) | (refine w_condP rfl (ht := fun h => ?_) (hf := fun h => ?_) <;> try exact prn) | refine w_block ?_ | refine w_skip ?_ | refine w_exit ?_ | refine w_ret ?_ | fail)
  all_goals (refine w_fin rfl (subB ?_); simp [mayE, *])
theorem emay_ok (hK : KnownOk) (x : Entry) (ha : x.b.recs.length ≤ 1000000) (hp : x.prod.seen.length ≤ 1000000) : Ct Tryz.prog 109 [.agg (liftT (encEntry x))] [] (.t (.bool (mayE x))) [] := by
  by_cases h0 : x.kind = 0
  · exact emay0 hK x h0 ha hp
  by_cases h1 : x.kind = 1
  · exact emay1 hK x h1 ha hp
  by_cases h2 : x.kind = 2
  · exact emay2 hK x h2 ha hp
  by_cases h3 : x.kind = 3
  · exact emay3 x h3 ha hp
  by_cases h4 : x.kind = 4
  · exact emay4 x h4 ha hp
  by_cases h5 : x.kind = 5
  · exact emay5 hK x h5 ha hp
  by_cases h6 : x.kind = 6
  · exact emay6 hK x h6 ha hp
  exact emayO x h0 h1 h2 h3 h4 h5 h6
end Go.Proofs.YtpdmaenhenfofaaGreatDoor
