/- EngineApart, whole. -/
import Derived.Test.YtpdmaenhenfofaaGreatDoorZM10
import Derived.Test.YtpdmaenhenfofaaGreatDoorZJ13
import Derived.Test.YtpdmaenhenfofaaGreatDoorZJ12
import Derived.Test.YtpdmaenhenfofaaGreatDoorZJ7
set_option linter.unusedVariables false
set_option linter.unusedSimpArgs false
namespace Go.Proofs.YtpdmaenhenfofaaGreatDoor
open Go.Am
attribute [local irreducible] Decidable.decide
set_option maxRecDepth 100000
set_option maxHeartbeats 1000000
theorem greatBs_small {l : List Batch} (h : greatBs l = false) : l.length ≤ 40 ∧ ∀ b ∈ l, b.recs.length ≤ 40 := by
  simp only [greatBs, Bool.or_eq_false_iff, decide_eq_false_iff_not] at h
  refine ⟨by omega, fun b hb => ?_⟩
  have := List.any_eq_false.1 h.2 b hb
  simp only [greatB, Bool.or_eq_true, decide_eq_true_eq, not_or] at this
  omega
theorem greatP_small {p : Part} (h : greatP p = false) : smallPart p ∧ p.rows.length ≤ 300 ∧ p.opens.length ≤ 40 := by
  simp only [greatP, greatRows, Bool.or_eq_false_iff, decide_eq_false_iff_not] at h
  obtain ⟨⟨⟨⟨h1, _⟩, h2⟩, h3⟩, h4, h5⟩ := h
  refine ⟨⟨by omega, by omega, fun o ho => ?_, by omega, fun x hx => ?_⟩, by omega, by omega⟩
  · have := greatBs_small (l := o.batches) (by simpa using List.any_eq_false.1 h4 o ho)
    exact ⟨by omega, fun b hb => by have := this.2 b hb; omega⟩
  · have := List.any_eq_false.1 h5 x hx
    simp only [greatProd, decide_eq_true_eq] at this
    omega
theorem insF_le {α : Type} {f : α → Int} {x : α} {l : List α} : (insF f x l).length ≤ l.length + 1 := by
  have h1 : ∀ {l : List α}, (l.filter (fun y => decide (f y < f x))).length + (l.filter (fun y => decide (f x < f y))).length ≤ l.length := by
    intro l
    induction l with
    | nil => simp
    | cons a r ih =>
      simp only [List.filter_cons, List.length_cons]
      by_cases c1 : f a < f x
      · have c2 : ¬ f x < f a := by omega
        simp only [c1, c2, decide_true, decide_false, if_true, Bool.false_eq_true, if_false, List.length_cons]; omega
      · by_cases c2 : f x < f a
        · simp only [c1, c2, decide_true, decide_false, if_true, Bool.false_eq_true, if_false, List.length_cons]; omega
        · simp only [c1, c2, decide_false, Bool.false_eq_true, if_false]; omega
  have := @h1 l
  simp only [insF, List.length_append, List.length_cons]
  omega
theorem prod_small {e q : Int} {p : Part} {b : Batch} (ht : b.txn = true) (hs : smallPart p) (hr : p.rows.length ≤ 1000000) (ho : p.opens.length ≤ 999999) (h : (Produce e q p b).e = 0) : smallPart (Produce e q p b).part := by
  obtain ⟨hbad, hm, hc, hA⟩ := prod_ok h
  have hp := partOk_iff.1 (of_good hbad).2.2.2
  rcases hA with ⟨_, hP⟩ | ⟨hi, hrc, hP⟩
  · rw [hP]; exact hs
  · rw [hP]
    have hok := txn_ok hp hm hc hi ht (refC_none hrc)
    show smallPart (oneP p b)
    rw [show oneP p b = txnP p b by simp [oneP, ht]]
    refine pOk_small hok hr ?_
    have := insF_le (f := Opn.pid) (x := openOf p.opens b) (l := p.opens)
    simp only [txnP]; omega
theorem apart_rows {e q : Int} {p : Part} {b : Batch} (ht : b.txn = true) (h : (Produce e q p b).e = 0) : (Produce e q p b).part.rows = p.rows := by
  obtain ⟨_, _, _, hA⟩ := prod_ok h
  rcases hA with ⟨_, hP⟩ | ⟨_, _, hP⟩
  · rw [hP]
  · rw [hP]; simp [oneP, ht, txnP]
theorem apart_opens {e q : Int} {p : Part} {b : Batch} (ht : b.txn = true) (h : (Produce e q p b).e = 0) : (Produce e q p b).part.opens.length ≤ p.opens.length + 1 := by
  obtain ⟨_, _, _, hA⟩ := prod_ok h
  rcases hA with ⟨_, hP⟩ | ⟨_, _, hP⟩
  · rw [hP]; simp
  · rw [hP]; simp only [oneP, ht, if_true, txnP]; exact insF_le
theorem apart_ok (tag : Int) (p : Part) (a b : Batch) : Ct Tryz.prog 5 [.t (.int .i8 tag), .agg (liftT (encPart p)), .agg (liftT (encBatch a)), .agg (liftT (encBatch b))] [] (.t (.bool true)) [] := by
  have cp := greatP_ok p
  have cg := greatBs_ok [a, b]
  refine ct0 progOk Tryz.func5 rfl false rfl rfl ?_
  cases hgp : greatP p with
  | true =>
    rw [hgp] at cp
    repeat' (first | refine w_step progOk rfl rfl rfl ?_ | refine w_nil ?_ | refine w_seq ?_ | refine w_reg progOk rfl rfl ?_ | (refine w_gFP rfl rfl rfl rfl rfl (ht := fun h => ?_) (hf := fun h => ?_) <;> try exact prn) | (refine w_condP rfl (ht := fun h => ?_) (hf := fun h => ?_) <;> try exact prn) | refine w_ret ?_ | refine w_call progOk rfl rfl rfl rfl rfl rfl rfl (cp) rfl rfl ?_ | refine w_call progOk rfl rfl rfl rfl rfl rfl rfl (wakes_ok) rfl rfl ?_ | fail)
    all_goals exact w_fin rfl (Sub.of_eq rfl)
  | false =>
    rw [hgp] at cp
    cases hg : greatBs [a, b] with
    | true =>
      rw [hg] at cg
      repeat' (first | refine w_stepZ progOk rfl rfl rfl rfl rfl ?_ | refine w_step progOk rfl rfl rfl ?_ | refine w_nil ?_ | refine w_seq ?_ | refine w_reg progOk rfl rfl ?_ | (refine w_gFP rfl rfl rfl rfl rfl (ht := fun h => ?_) (hf := fun h => ?_) <;> try exact prn) | (refine w_condP rfl (ht := fun h => ?_) (hf := fun h => ?_) <;> try exact prn) | refine w_ret ?_ | refine w_call progOk rfl rfl rfl rfl rfl rfl rfl (cp) rfl rfl ?_ | refine w_callZ progOk rfl rfl rfl rfl (cg) rfl rfl rfl ⟨sub_slice, trivial⟩ ?_ | refine w_call progOk rfl rfl rfl rfl rfl rfl rfl (wakes_ok) rfl rfl ?_ | fail)
      all_goals exact w_fin rfl (Sub.of_eq rfl)
    | false =>
      rw [hg] at cg
      obtain ⟨hsm, hrl, hol⟩ := greatP_small hgp
      have hga := (greatBs_small hg).2 a (by simp)
      have hgb := (greatBs_small hg).2 b (by simp)
      by_cases hpid : a.pid = b.pid
      · repeat' (first | refine w_stepZ progOk rfl rfl rfl rfl rfl ?_ | refine w_step progOk rfl rfl rfl ?_ | refine w_nil ?_ | refine w_seq ?_ | refine w_reg progOk rfl rfl ?_ | (refine w_gFP rfl rfl rfl rfl rfl (ht := fun h => ?_) (hf := fun h => ?_) <;> try exact prn) | (refine w_condP rfl (ht := fun h => ?_) (hf := fun h => ?_) <;> try exact prn) | refine w_ret ?_ | refine w_call progOk rfl rfl rfl rfl rfl rfl rfl (cp) rfl rfl ?_ | refine w_callZ progOk rfl rfl rfl rfl (cg) rfl rfl rfl ⟨sub_slice, trivial⟩ ?_ | refine w_call progOk rfl rfl rfl rfl rfl rfl rfl (wakes_ok) rfl rfl ?_ | fail)
        all_goals exact w_fin rfl (Sub.of_eq rfl)
      cases hta : a.txn with
      | false =>
        repeat' (first | refine w_stepZ progOk rfl rfl rfl rfl rfl ?_ | refine w_step progOk rfl rfl rfl ?_ | refine w_nil ?_ | refine w_seq ?_ | refine w_reg progOk rfl rfl ?_ | (refine w_gFP rfl rfl rfl rfl rfl (ht := fun h => ?_) (hf := fun h => ?_) <;> try exact prn) | (refine w_condP rfl (ht := fun h => ?_) (hf := fun h => ?_) <;> try exact prn) | refine w_skip ?_ | refine w_ret ?_ | refine w_call progOk rfl rfl rfl rfl rfl rfl rfl (cp) rfl rfl ?_ | refine w_callZ progOk rfl rfl rfl rfl (cg) rfl rfl rfl ⟨sub_slice, trivial⟩ ?_ | refine w_call progOk rfl rfl rfl rfl rfl rfl rfl (wakes_ok) rfl rfl ?_ | fail)
        all_goals first | (exfalso; simp_all; done) | exact w_fin rfl (Sub.of_eq rfl)
      | true =>
        cases htb : b.txn with
        | false =>
          repeat' (first | refine w_stepZ progOk rfl rfl rfl rfl rfl ?_ | refine w_step progOk rfl rfl rfl ?_ | refine w_nil ?_ | refine w_seq ?_ | refine w_reg progOk rfl rfl ?_ | (refine w_gFP rfl rfl rfl rfl rfl (ht := fun h => ?_) (hf := fun h => ?_) <;> try exact prn) | (refine w_condP rfl (ht := fun h => ?_) (hf := fun h => ?_) <;> try exact prn) | refine w_skip ?_ | refine w_ret ?_ | refine w_call progOk rfl rfl rfl rfl rfl rfl rfl (cp) rfl rfl ?_ | refine w_callZ progOk rfl rfl rfl rfl (cg) rfl rfl rfl ⟨sub_slice, trivial⟩ ?_ | refine w_call progOk rfl rfl rfl rfl rfl rfl rfl (wakes_ok) rfl rfl ?_ | fail)
          all_goals first | (exfalso; simp_all; done) | exact w_fin rfl (Sub.of_eq rfl)
        | true =>
          have cx := Produce_ok tag 0 p a hsm (by omega)
          have cy := Produce_ok tag 0 p b hsm (by omega)
          unfold PO.av at cx cy
          by_cases hxe : (Produce tag 0 p a).e = 0
          · by_cases hye : (Produce tag 0 p b).e = 0
            · have law := apart_law hpid hta htb hxe hye
              have sx := prod_small hta hsm (by omega) (by omega) hxe
              have sy := prod_small htb hsm (by omega) (by omega) hye
              have cx2 := Produce_ok tag 0 (Produce tag 0 p a).part b sx (by omega)
              have cy2 := Produce_ok tag 0 (Produce tag 0 p b).part a sy (by omega)
              unfold PO.av at cx2 cy2
              obtain ⟨l1, l2⟩ := law
              rw [← l1] at cy2
              rw [hxe] at cx
              rw [hye] at cy
              by_cases h2 : (Produce tag 0 (Produce tag 0 p a).part b).e = 0
              · obtain ⟨m1, m2, m3⟩ := l2 h2
                have s2 : smallPart (Produce tag 0 (Produce tag 0 p a).part b).part := prod_small htb sx (by rw [apart_rows hta hxe]; omega) (by have := apart_opens hta hxe; omega) h2
                have cs := samePart_ok _ s2
                rw [← m3, ← m1] at cy2
                rw [← m2] at cx2
                rw [h2] at cx2 cy2
                generalize (Produce tag 0 (Produce tag 0 p a).part b).part = P2 at *
                generalize Produce tag 0 (Produce tag 0 p a).part b = X2 at *
                generalize Produce tag 0 (Produce tag 0 p b).part a = Y2 at *
                generalize Produce tag 0 p a = X at *
                generalize Produce tag 0 p b = Y at *
                repeat' (first | refine w_stepZ progOk rfl rfl rfl rfl rfl ?_ | refine w_step progOk rfl rfl rfl ?_ | refine w_nil ?_ | refine w_seq ?_ | refine w_reg progOk rfl rfl ?_ | (refine w_gTP rfl rfl rfl rfl rfl (ht := fun h => ?_) (hf := fun h => ?_) <;> try exact prn) | (refine w_gFP rfl rfl rfl rfl rfl (ht := fun h => ?_) (hf := fun h => ?_) <;> try exact prn) | (refine w_condP rfl (ht := fun h => ?_) (hf := fun h => ?_) <;> try exact prn) | refine w_skip ?_ | refine w_ret ?_ | refine w_call progOk rfl rfl rfl rfl rfl rfl rfl (cp) rfl rfl ?_ | refine w_callZ progOk rfl rfl rfl rfl (cg) rfl rfl rfl ⟨sub_slice, trivial⟩ ?_ | refine w_call progOk rfl rfl rfl rfl rfl rfl rfl (wakes_ok) rfl rfl ?_ | refine w_call progOk rfl rfl rfl rfl rfl rfl rfl (cx) rfl rfl ?_ | refine w_call progOk rfl rfl rfl rfl rfl rfl rfl (cy) rfl rfl ?_ | refine w_call progOk rfl rfl rfl rfl rfl rfl rfl (cx2) rfl rfl ?_ | refine w_call progOk rfl rfl rfl rfl rfl rfl rfl (cy2) rfl rfl ?_ | refine w_call progOk rfl rfl rfl rfl rfl rfl rfl (cs) rfl rfl ?_ | fail)
                all_goals exact w_fin rfl (Sub.of_eq rfl)
              · generalize (Produce tag 0 (Produce tag 0 p a).part b).e = n2 at *
                generalize Produce tag 0 (Produce tag 0 p a).part b = X2 at *
                generalize Produce tag 0 (Produce tag 0 p b).part a = Y2 at *
                generalize Produce tag 0 p a = X at *
                generalize Produce tag 0 p b = Y at *
                repeat' (first | refine w_stepZ progOk rfl rfl rfl rfl rfl ?_ | refine w_step progOk rfl rfl rfl ?_ | refine w_nil ?_ | refine w_seq ?_ | refine w_reg progOk rfl rfl ?_ | (refine w_gTP rfl rfl rfl rfl rfl (ht := fun h => ?_) (hf := fun h => ?_) <;> try exact prn) | (refine w_gFP rfl rfl rfl rfl rfl (ht := fun h => ?_) (hf := fun h => ?_) <;> try exact prn) | refine w_guardU rfl rfl rfl rfl rfl ?_ | (refine w_condP rfl (ht := fun h => ?_) (hf := fun h => ?_) <;> try exact prn) | refine w_skip ?_ | refine w_ret ?_ | refine w_call progOk rfl rfl rfl rfl rfl rfl rfl (cp) rfl rfl ?_ | refine w_callZ progOk rfl rfl rfl rfl (cg) rfl rfl rfl ⟨sub_slice, trivial⟩ ?_ | refine w_call progOk rfl rfl rfl rfl rfl rfl rfl (wakes_ok) rfl rfl ?_ | refine w_call progOk rfl rfl rfl rfl rfl rfl rfl (cx) rfl rfl ?_ | refine w_call progOk rfl rfl rfl rfl rfl rfl rfl (cy) rfl rfl ?_ | refine w_call progOk rfl rfl rfl rfl rfl rfl rfl (cx2) rfl rfl ?_ | refine w_call progOk rfl rfl rfl rfl rfl rfl rfl (cy2) rfl rfl ?_ | fail)
                all_goals exact w_fin rfl (Sub.of_eq rfl)
            · generalize Produce tag 0 p a = X at *
              generalize Produce tag 0 p b = Y at *
              repeat' (first | refine w_stepZ progOk rfl rfl rfl rfl rfl ?_ | refine w_step progOk rfl rfl rfl ?_ | refine w_nil ?_ | refine w_seq ?_ | refine w_reg progOk rfl rfl ?_ | (refine w_gFP rfl rfl rfl rfl rfl (ht := fun h => ?_) (hf := fun h => ?_) <;> try exact prn) | (refine w_condP rfl (ht := fun h => ?_) (hf := fun h => ?_) <;> try exact prn) | refine w_skip ?_ | refine w_ret ?_ | refine w_call progOk rfl rfl rfl rfl rfl rfl rfl (cp) rfl rfl ?_ | refine w_callZ progOk rfl rfl rfl rfl (cg) rfl rfl rfl ⟨sub_slice, trivial⟩ ?_ | refine w_call progOk rfl rfl rfl rfl rfl rfl rfl (wakes_ok) rfl rfl ?_ | refine w_call progOk rfl rfl rfl rfl rfl rfl rfl (cx) rfl rfl ?_ | refine w_call progOk rfl rfl rfl rfl rfl rfl rfl (cy) rfl rfl ?_ | fail)
              all_goals exact w_fin rfl (Sub.of_eq rfl)
          · generalize Produce tag 0 p a = X at *
            generalize Produce tag 0 p b = Y at *
            repeat' (first | refine w_stepZ progOk rfl rfl rfl rfl rfl ?_ | refine w_step progOk rfl rfl rfl ?_ | refine w_nil ?_ | refine w_seq ?_ | refine w_reg progOk rfl rfl ?_ | (refine w_gFP rfl rfl rfl rfl rfl (ht := fun h => ?_) (hf := fun h => ?_) <;> try exact prn) | (refine w_condP rfl (ht := fun h => ?_) (hf := fun h => ?_) <;> try exact prn) | refine w_skip ?_ | refine w_ret ?_ | refine w_call progOk rfl rfl rfl rfl rfl rfl rfl (cp) rfl rfl ?_ | refine w_callZ progOk rfl rfl rfl rfl (cg) rfl rfl rfl ⟨sub_slice, trivial⟩ ?_ | refine w_call progOk rfl rfl rfl rfl rfl rfl rfl (wakes_ok) rfl rfl ?_ | refine w_call progOk rfl rfl rfl rfl rfl rfl rfl (cx) rfl rfl ?_ | refine w_call progOk rfl rfl rfl rfl rfl rfl rfl (cy) rfl rfl ?_ | fail)
            all_goals exact w_fin rfl (Sub.of_eq rfl)
end Go.Proofs.YtpdmaenhenfofaaGreatDoor
