/- EngineSplit, whole. -/
import Derived.Test.YtpdmaenhenfofaaGreatDoorZM10
import Derived.Test.YtpdmaenhenfofaaGreatDoorZBd
import Derived.Test.YtpdmaenhenfofaaGreatDoorZJ11
import Derived.Test.YtpdmaenhenfofaaGreatDoorZJ7
set_option linter.unusedVariables false
set_option linter.unusedSimpArgs false
namespace Go.Proofs.YtpdmaenhenfofaaGreatDoor
open Go.Am
attribute [local irreducible] Decidable.decide
set_option maxRecDepth 100000
set_option maxHeartbeats 1000000
theorem great_small {b : Batch} (h : greatBs [b] = false) : b.recs.length ≤ 40 := by
  simp only [greatBs, Bool.or_eq_false_iff, List.any_cons, greatB, decide_eq_false_iff_not] at h
  omega
def yAt (b : Batch) : Nat → Part
  | 0 => partZ
  | i + 1 => match b.recs[i]? with
    | some r => plainP (yAt b i) (oneB b i r)
    | none => yAt b i
theorem yAt_ok {b : Batch} (hb : mayBatch b = true) (ht : b.txn = false) (hs : b.seq = 0) : ∀ i, i ≤ b.recs.length → YI b i (yAt b i)
  | 0, _ => yi_zero b
  | i + 1, h => by
    have hr : b.recs[i]? = some (b.recs[i]'(by omega)) := List.getElem?_eq_getElem _
    simp only [yAt, hr]
    exact yi_step (yAt_ok hb ht hs i (by omega)) hb ht hs hr
theorem split_ok (tag : Int) (b : Batch) : Ct Tryz.prog 4 [.t (.int .i8 tag), .agg (liftT (encBatch b))] [] (.t (.bool true)) [] := by
  have cg := greatBs_ok [b]
  refine ct0 progOk Tryz.func4 rfl false rfl rfl ?_
  cases hg : greatBs [b] with
  | true =>
    rw [hg] at cg
    repeat' (first | refine w_stepZ progOk rfl rfl rfl rfl rfl ?_ | refine w_step progOk rfl rfl rfl ?_ | refine w_nil ?_ | refine w_seq ?_ | refine w_reg progOk rfl rfl ?_ | (refine w_gFP rfl rfl rfl rfl rfl (ht := fun h => ?_) (hf := fun h => ?_) <;> try exact prn) | (refine w_condP rfl (ht := fun h => ?_) (hf := fun h => ?_) <;> try exact prn) | refine w_ret ?_ | refine w_callZ progOk rfl rfl rfl rfl (cg) rfl rfl rfl ⟨sub_slice, trivial⟩ ?_ | refine w_call progOk rfl rfl rfl rfl rfl rfl rfl (wakes_ok) rfl rfl ?_ | fail)
    all_goals exact w_fin rfl (Sub.of_eq rfl)
  | false =>
    rw [hg] at cg
    have hlen := great_small hg
    have cp := produceW_ok tag 0 partZ b (pOk_small pOk_Z (by decide) (by decide)) (by omega)
    cases ht : b.txn with
    | true =>
      repeat' (first | refine w_stepZ progOk rfl rfl rfl rfl rfl ?_ | refine w_step progOk rfl rfl rfl ?_ | refine w_nil ?_ | refine w_seq ?_ | refine w_reg progOk rfl rfl ?_ | (refine w_gFP rfl rfl rfl rfl rfl (ht := fun h => ?_) (hf := fun h => ?_) <;> try exact prn) | (refine w_condP rfl (ht := fun h => ?_) (hf := fun h => ?_) <;> try exact prn) | refine w_ret ?_ | refine w_callZ progOk rfl rfl rfl rfl (cg) rfl rfl rfl ⟨sub_slice, trivial⟩ ?_ | refine w_call progOk rfl rfl rfl rfl rfl rfl rfl (wakes_ok) rfl rfl ?_ | fail)
      all_goals exact w_fin rfl (Sub.of_eq rfl)
    | false =>
      by_cases hs : b.seq = 0
      · rcases split_first ht hs (e := tag) with hE | ⟨he, hm, w, hP⟩
        · have cp := cp fun _ h => by rename_i hbad; exact produceG_ok tag 0 (of_good hbad).2.1 (.inl rfl) partZ b (pOk_small pOk_Z (by decide) (by decide)) ⟨by decide, by decide⟩ h (fun h' => by rw [ht] at h'; cases h')
          unfold PO.av at cp
          generalize Produce tag 0 partZ b = r at cp hE
          repeat' (first | refine w_stepZ progOk rfl rfl rfl rfl rfl ?_ | refine w_step progOk rfl rfl rfl ?_ | refine w_nil ?_ | refine w_seq ?_ | refine w_reg progOk rfl rfl ?_ | (refine w_gFP rfl rfl rfl rfl rfl (ht := fun h => ?_) (hf := fun h => ?_) <;> try exact prn) | (refine w_condP rfl (ht := fun h => ?_) (hf := fun h => ?_) <;> try exact prn) | refine w_skip ?_ | refine w_ret ?_ | refine w_callZ progOk rfl rfl rfl rfl (cg) rfl rfl rfl ⟨sub_slice, trivial⟩ ?_ | refine w_call progOk rfl rfl rfl rfl rfl rfl rfl (wakes_ok) rfl rfl ?_ | refine w_callZ progOk rfl rfl rfl rfl (cp) rfl rfl rfl ⟨Sub.refl _, Sub.refl _, partZ_sub, Sub.refl _, trivial⟩ ?_ | fail)
          all_goals exact w_fin rfl (Sub.of_eq rfl)
        · have cp := cp fun _ h => produceG_ok tag 0 he (.inl rfl) partZ b (pOk_small pOk_Z (by decide) (by decide)) ⟨by decide, by decide⟩ h (fun h' => by rw [ht] at h'; cases h')
          unfold PO.av at cp
          rw [hP] at cp
          have hlm : (b.recs.map encRec).length = b.recs.length := List.length_map ..
          have hw64 : ∀ i : Nat, i < b.recs.length → IntKind.i64.wrap ((i : Int) + 1) = ((i + 1 : Nat) : Int) := fun i h => by rw [wrap64 (by omega) (by omega)]; rfl
          generalize hx : plainP partZ b = x at cp
          repeat' (first | refine w_stepZ progOk rfl rfl rfl rfl rfl ?_ | refine w_step progOk rfl rfl rfl ?_ | refine w_nil ?_ | refine w_seq ?_ | refine w_reg progOk rfl rfl ?_ | (refine w_gFP rfl rfl rfl rfl rfl (ht := fun h => ?_) (hf := fun h => ?_) <;> try exact prn) | (refine w_condP rfl (ht := fun h => ?_) (hf := fun h => ?_) <;> try exact prn) | refine w_block ?_ | refine w_skip ?_ | refine w_ret ?_ | refine w_callZ progOk rfl rfl rfl rfl (cg) rfl rfl rfl ⟨sub_slice, trivial⟩ ?_ | refine w_call progOk rfl rfl rfl rfl rfl rfl rfl (wakes_ok) rfl rfl ?_ | refine w_callZ progOk rfl rfl rfl rfl (cp) rfl rfl rfl ⟨Sub.refl _, Sub.refl _, partZ_sub, Sub.refl _, trivial⟩ ?_ | fail)
          all_goals try exact w_fin rfl (Sub.of_eq rfl)
          refine Tr.subCell 18 2 (x := .t (.slice .nil 0 [])) (y := .t (.slice .any 5 [])) rfl rfl sub_slNil ?_
          refine Tr.subCell 18 3 (x := .t (.slice .nil 0 [])) (y := .t (.slice .any 3 [])) rfl rfl sub_slNil ?_
          refine Tr.subCell 18 4 (x := .t (.slice .nil 0 [])) (y := .t (.slice .any 4 [])) rfl rfl sub_slNil ?_
          refine w_loop (ι := Nat) (fun i => i ≤ b.recs.length) (fun i => [(0, .t (.int .i8 tag)), (3, .ref 6 0), (5, .ref 10 0), (6, .t (.int .i64 0)), (9, .ref 18 0), (43, .t (.slice .any 2 (b.recs.map encRec))), (44, .t (.int .i64 b.recs.length)), (45, .t (.int .i64 i))])
            (fun i => [(18, .cells (liftT (encPart (yAt b i)))), (10, .cells (liftT (encPart x))), (6, .cells (liftT (encBatch b)))]) (fun i => b.recs.length - i) 0 (by simp) ?_ ?_
          · exact at_of [] (sub_eq rfl rfl (sub_eq rfl rfl (sub_eq rfl rfl (sub_eq rfl rfl (sub_eq rfl rfl (sub_eq rfl rfl (sub_eq rfl (by rw [hlm]) (sub_eq rfl rfl sub_nil)))))))) rfl
          rintro i hi
          have hY := yAt_ok hm ht hs i hi
          by_cases hlt : i < b.recs.length
          · have hr : b.recs[i]? = some b.recs[i] := List.getElem?_eq_getElem hlt
            generalize b.recs[i] = r at hr
            obtain ⟨w1, hP1⟩ := yi_produce hY hm ht hs hr he
            have hY1 := yAt_ok hm ht hs (i + 1) hlt
            have hye : yAt b (i + 1) = plainP (yAt b i) (oneB b i r) := by simp [yAt, hr]
            have hone := one_may hm hs hr
            have hsm : smallPart (yAt b i) := pOk_small hY.ok (by rw [hY.rows]; simp; omega) (by rw [hY.opens]; simp)
            have c1 := produceW_ok tag 0 (yAt b i) (oneB b i r) hsm (by simp [oneB]) fun _ h => produceG_ok tag 0 he (.inl rfl) (yAt b i) (oneB b i r) hsm ⟨by rw [hY.fin]; omega, by rw [hY.fin]; omega⟩ h (fun h' => by rw [show (oneB b i r).txn = b.txn from rfl, ht] at h'; cases h')
            unfold PO.av at c1
            rw [hP1, ← hye] at c1
            generalize hgen : yAt b (i + 1) = y1 at c1 hY1 hye
            repeat' (first | refine w_stepZ progOk rfl rfl rfl rfl rfl ?_ | refine w_step progOk rfl rfl rfl ?_ | refine w_nil ?_ | refine w_seq ?_ | refine w_reg progOk rfl rfl ?_ | (refine w_gFP rfl rfl rfl rfl rfl (ht := fun h => ?_) (hf := fun h => ?_) <;> try exact prn) | (refine w_condP rfl (ht := fun h => ?_) (hf := fun h => ?_) <;> try exact prn) | refine w_block ?_ | refine w_skip ?_ | refine w_index progOk rfl rfl rfl rfl rfl rfl rfl (map_get (by assumption)) rfl ?_ | refine s_step rfl rfl rfl rfl ?_ | refine s_nil ?_ | refine w_regSt progOk 4 (id := 11) (m := 5) (x0 := .t (.int .i64 i)) (ys := [.t (.int .i64 i)]) (lab := 24) (off := 2) (by kernel_rfl) (by rfl) (by rfl) (by rfl) (by rfl) (by rfl) (by rfl) (by rfl) (by kernel_rfl) (by rfl) (by rfl) (by rfl) (by rfl) (by rfl) ?_ rfl | refine ⟨rfl, rfl, ?_⟩ | refine w_callZ progOk rfl rfl rfl rfl (c1) rfl rfl rfl ⟨Sub.refl _, Sub.refl _, Sub.refl _, (by refine sub_agg ?_; exact ⟨Sub.refl _, Sub.refl _, Sub.refl _, Sub.refl _, sub_slice, trivial⟩), trivial⟩ ?_ | fail)
            refine w_next (i + 1) hlt (by omega) [11, 12, 13] (sub_eq rfl rfl (sub_eq rfl rfl (sub_eq rfl rfl (sub_eq rfl rfl (sub_eq rfl rfl (sub_eq rfl rfl (sub_eq rfl rfl (sub_eq rfl (by rw [hw64 i hlt]; rfl) sub_nil)))))))) ?_
            simp only [hgen]; rfl
          · have hie : i = b.recs.length := by omega
            subst hie
            obtain ⟨q1, q2⟩ := split_same hY
            rw [hx] at q1 q2
            generalize yAt b b.recs.length = y at hY q1 q2
            have hrl : x.rows.length ≤ 100000000 := by rw [q2, hY.rows]; simp; omega
            have cs := sameRows_ok x.rows y.rows hrl
            rw [decide_eq_true q2] at cs
            repeat' (first | refine w_step progOk rfl rfl rfl ?_ | refine w_nil ?_ | refine w_seq ?_ | refine w_reg progOk rfl rfl ?_ | (refine w_gTP rfl rfl rfl rfl rfl (ht := fun h => ?_) (hf := fun h => ?_) <;> try exact prn) | (refine w_condP rfl (ht := fun h => ?_) (hf := fun h => ?_) <;> try exact prn) | refine w_exit ?_ | refine w_ret ?_ | refine w_call progOk rfl rfl rfl rfl rfl rfl rfl (cs) rfl rfl ?_ | refine w_call progOk rfl rfl rfl rfl rfl rfl rfl (wakes_ok) rfl rfl ?_ | fail)
            all_goals exact w_fin rfl (Sub.of_eq rfl)
      · repeat' (first | refine w_stepZ progOk rfl rfl rfl rfl rfl ?_ | refine w_step progOk rfl rfl rfl ?_ | refine w_nil ?_ | refine w_seq ?_ | refine w_reg progOk rfl rfl ?_ | (refine w_gFP rfl rfl rfl rfl rfl (ht := fun h => ?_) (hf := fun h => ?_) <;> try exact prn) | (refine w_condP rfl (ht := fun h => ?_) (hf := fun h => ?_) <;> try exact prn) | refine w_ret ?_ | refine w_callZ progOk rfl rfl rfl rfl (cg) rfl rfl rfl ⟨sub_slice, trivial⟩ ?_ | refine w_call progOk rfl rfl rfl rfl rfl rfl rfl (wakes_ok) rfl rfl ?_ | fail)
        all_goals exact w_fin rfl (Sub.of_eq rfl)
end Go.Proofs.YtpdmaenhenfofaaGreatDoor
