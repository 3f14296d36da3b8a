/- Contracts of the program: producers that may be known (a range over a function). -/
import Derived.Test.YtpdmaenhenfofaaGreatDoorPf
import Derived.Test.YtpdmaenhenfofaaGreatDoorM5
set_option linter.unusedVariables false
set_option linter.unusedSimpArgs false
namespace Go.Proofs.YtpdmaenhenfofaaGreatDoor
open Go.Am
attribute [local irreducible] Decidable.decide
set_option maxRecDepth 100000
set_option maxHeartbeats 1000000

theorem back_ok (l : List Seen) : Ct Tryz.prog 199 [.t (.slice .any 3 (l.map encSeen))] [] (.t (.func (.func 210) [] [.ptr [.slice .any 3 (l.map encSeen)]])) [] := by
  refine ct0 progOk Tryz.func199 rfl false rfl rfl ?_
  refine w_seq ?_
  refine w_reg progOk rfl rfl ?_
  repeat' (first | refine w_stepZ progOk rfl rfl rfl rfl rfl ?_ | refine w_step progOk rfl rfl rfl ?_ | refine w_nil ?_ | (refine w_gTP rfl rfl rfl rfl rfl (ht := fun h => ?_) (hf := fun h => ?_) <;> try exact prn) | (refine w_gFP rfl rfl rfl rfl rfl (ht := fun h => ?_) (hf := fun h => ?_) <;> try exact prn) | refine w_guardU rfl rfl rfl rfl rfl ?_ | refine w_index progOk rfl rfl rfl rfl rfl rfl rfl (map_get (by assumption)) rfl ?_ | refine w_indexE progOk rfl rfl rfl rfl rfl rfl rfl (by assumption) (map_get (by assumption)) rfl ?_ | refine w_appNil progOk rfl rfl rfl rfl rfl rfl rfl rfl rfl rfl rfl rfl rfl (by simp [chunk]; omega) ?_ | refine w_appRow progOk rfl rfl rfl rfl rfl rfl rfl rfl rfl rfl rfl rfl rfl rfl (by simp [chunk]; omega) ?_ | refine s_step rfl rfl rfl rfl ?_ | refine s_nil ?_ | (refine s_gTP rfl rfl rfl rfl rfl (ht := fun h => ?_) (hf := fun h => ?_) <;> try exact prn) | (refine s_gFP rfl rfl rfl rfl rfl (ht := fun h => ?_) (hf := fun h => ?_) <;> try exact prn) | refine s_guardU rfl rfl rfl rfl rfl ?_ | refine s_index rfl rfl rfl rfl rfl rfl rfl (map_get (by assumption)) rfl ?_ | fail)
  refine Tr.freezeBox (cs := [.slice .any 3 (l.map encSeen)]) 1 2 rfl rfl rfl rfl ?_
  repeat' (first | refine w_stepZ progOk rfl rfl rfl rfl rfl ?_ | refine w_step progOk rfl rfl rfl ?_ | refine w_nil ?_ | refine w_seq ?_ | refine w_reg progOk rfl rfl ?_ | (refine w_gTP rfl rfl rfl rfl rfl (ht := fun h => ?_) (hf := fun h => ?_) <;> try exact prn) | (refine w_gFP rfl rfl rfl rfl rfl (ht := fun h => ?_) (hf := fun h => ?_) <;> try exact prn) | refine w_guardU rfl rfl rfl rfl rfl ?_ | (refine w_condP rfl (ht := fun h => ?_) (hf := fun h => ?_) <;> try exact prn) | refine w_block ?_ | refine w_skip ?_ | refine w_exit ?_ | refine w_ret ?_ | refine w_index progOk rfl rfl rfl rfl rfl rfl rfl (map_get (by assumption)) rfl ?_ | refine w_indexE progOk rfl rfl rfl rfl rfl rfl rfl (by assumption) (map_get (by assumption)) rfl ?_ | refine w_appNil progOk rfl rfl rfl rfl rfl rfl rfl rfl rfl rfl rfl rfl rfl (by simp [chunk]; omega) ?_ | refine w_appRow progOk rfl rfl rfl rfl rfl rfl rfl rfl rfl rfl rfl rfl rfl rfl (by simp [chunk]; omega) ?_ | refine s_step rfl rfl rfl rfl ?_ | refine s_nil ?_ | (refine s_gTP rfl rfl rfl rfl rfl (ht := fun h => ?_) (hf := fun h => ?_) <;> try exact prn) | (refine s_gFP rfl rfl rfl rfl rfl (ht := fun h => ?_) (hf := fun h => ?_) <;> try exact prn) | refine s_guardU rfl rfl rfl rfl rfl ?_ | refine s_index rfl rfl rfl rfl rfl rfl rfl (map_get (by assumption)) rfl ?_ | fail)
  exact w_fin rfl (Sub.of_eq rfl)

def dn : Nat → Int
  | 0 => -1
  | j + 1 => j

theorem dn_eq (n : Nat) : ((n : Nat) : Int) - 1 = dn n := by
  cases n with
  | zero => rfl
  | succ j => simp [dn]

theorem chain_drop {next : Int} : ∀ {l : List Seen} {i : Nat}, chainOk next (l.drop i) = false → chainOk next l = false
  | l, 0, h => by simpa using h
  | [], i + 1, h => by simp [chainOk] at h
  | a :: r, i + 1, h => by
    have := chain_drop (l := r) (i := i) (by simpa using h)
    simp [chainOk, this]

theorem chain_no {next : Int} {l : List Seen} {i : Nat} {r : Seen} (hr : l[i]? = some r) (h : chainOk next (l.drop (i + 1)) = true) (hn : ¬ okSeen r) : chainOk next l = false := by
  refine chain_drop (i := i) ?_
  rw [drop_cons hr]
  simp [chainOk, hn]

theorem chain_no2 {next : Int} {l : List Seen} {i : Nat} {r : Seen} (hr : l[i]? = some r) (h : chainOk next (l.drop (i + 1)) = true) (hn : ¬ (okSeen r ∧ r.seq ≤ behindOf next (l.drop (i + 1)) - r.count)) : chainOk next l = false := by
  refine chain_drop (i := i) ?_
  rw [drop_cons hr]
  simp only [chainOk, h, hn, decide_false, Bool.false_and]

theorem known_ok (p : Prod) (hp : p.seen.length ≤ 1000000) : Ct Tryz.prog 155 [.agg (liftT (encProd p))] [] (.t (.bool (knownP p))) [] := by
  refine ct0 progOk Tryz.func155 rfl false rfl rfl ?_
  have hlm : (p.seen.map encSeen).length = p.seen.length := List.length_map ..
  repeat' (first | refine w_stepZ progOk rfl rfl rfl rfl rfl ?_ | refine w_step progOk rfl rfl rfl ?_ | refine w_nil ?_ | refine w_seq ?_ | refine w_reg progOk rfl rfl ?_ | (refine w_gTP rfl rfl rfl rfl rfl (ht := fun h => ?_) (hf := fun h => ?_) <;> try exact prn) | (refine w_gFP rfl rfl rfl rfl rfl (ht := fun h => ?_) (hf := fun h => ?_) <;> try exact prn) | refine w_guardU rfl rfl rfl rfl rfl ?_ | (refine w_condP rfl (ht := fun h => ?_) (hf := fun h => ?_) <;> try exact prn) | refine w_block ?_ | refine w_skip ?_ | refine w_exit ?_ | refine w_ret ?_ | refine w_index progOk rfl rfl rfl rfl rfl rfl rfl (map_get (by assumption)) rfl ?_ | refine w_indexE progOk rfl rfl rfl rfl rfl rfl rfl (by assumption) (map_get (by assumption)) rfl ?_ | refine w_appNil progOk rfl rfl rfl rfl rfl rfl rfl rfl rfl rfl rfl rfl rfl (by simp [chunk]; omega) ?_ | refine w_appRow progOk rfl rfl rfl rfl rfl rfl rfl rfl rfl rfl rfl rfl rfl rfl (by simp [chunk]; omega) ?_ | refine s_step rfl rfl rfl rfl ?_ | refine s_nil ?_ | (refine s_gTP rfl rfl rfl rfl rfl (ht := fun h => ?_) (hf := fun h => ?_) <;> try exact prn) | (refine s_gFP rfl rfl rfl rfl rfl (ht := fun h => ?_) (hf := fun h => ?_) <;> try exact prn) | refine s_guardU rfl rfl rfl rfl rfl ?_ | refine s_index rfl rfl rfl rfl rfl rfl rfl (map_get (by assumption)) rfl ?_ | refine w_call progOk rfl rfl rfl rfl rfl rfl rfl (eseq_ok _) rfl rfl ?_ | refine w_call progOk rfl rfl rfl rfl rfl rfl rfl (eproducer_ok _ _) rfl rfl ?_ | refine w_call progOk rfl rfl rfl rfl rfl rfl rfl (back_ok p.seen) rfl rfl ?_ | fail)
  all_goals try (refine w_fin rfl (subB (known_no ?_)); unfold boundsP; omega)
  have hb : boundsP p := by unfold boundsP; omega
  have hb' := hb; unfold boundsP at hb'
  refine Tr.weak (E := [(2, .ref 4 0), (3, .ref 6 0), (28, .t (.func (.func 210) [] [.ptr [.slice .any 3 (p.seen.map encSeen)]]))]) (S := [(6, .cells [.t (.int .i64 p.next)]), (4, .cells [.t (.bool false)]), (2, .cells (liftT (encProd p)))]) ?_ (at_of [] (sub_eq rfl rfl (sub_eq rfl rfl (sub_eq rfl rfl sub_nil))) rfl)
  refine w_range progOk rfl Tryz.func210 rfl rfl (fun l => ?_)
  generalize hB : Blk.loop l .ready none _ _ _ _ _ = B
  repeat' (first | refine w_stepZ progOk rfl rfl rfl rfl rfl ?_ | refine w_step progOk rfl rfl rfl ?_ | refine w_nil ?_ | refine w_seq ?_ | refine w_reg progOk rfl rfl ?_ | (refine w_gTP rfl rfl rfl rfl rfl (ht := fun h => ?_) (hf := fun h => ?_) <;> try exact prn) | (refine w_gFP rfl rfl rfl rfl rfl (ht := fun h => ?_) (hf := fun h => ?_) <;> try exact prn) | refine w_guardU rfl rfl rfl rfl rfl ?_ | (refine w_condP rfl (ht := fun h => ?_) (hf := fun h => ?_) <;> try exact prn) | refine w_block ?_ | refine w_skip ?_ | refine w_exit ?_ | refine w_ret ?_ | refine w_index progOk rfl rfl rfl rfl rfl rfl rfl (map_get (by assumption)) rfl ?_ | refine w_indexE progOk rfl rfl rfl rfl rfl rfl rfl (by assumption) (map_get (by assumption)) rfl ?_ | refine w_appNil progOk rfl rfl rfl rfl rfl rfl rfl rfl rfl rfl rfl rfl rfl (by simp [chunk]; omega) ?_ | refine w_appRow progOk rfl rfl rfl rfl rfl rfl rfl rfl rfl rfl rfl rfl rfl rfl (by simp [chunk]; omega) ?_ | refine s_step rfl rfl rfl rfl ?_ | refine s_nil ?_ | (refine s_gTP rfl rfl rfl rfl rfl (ht := fun h => ?_) (hf := fun h => ?_) <;> try exact prn) | (refine s_gFP rfl rfl rfl rfl rfl (ht := fun h => ?_) (hf := fun h => ?_) <;> try exact prn) | refine s_guardU rfl rfl rfl rfl rfl ?_ | refine s_index rfl rfl rfl rfl rfl rfl rfl (map_get (by assumption)) rfl ?_ | fail)
  refine w_loop (ι := Nat) (fun i => i ≤ p.seen.length ∧ chainOk p.next (p.seen.drop i) = true) (fun i => [(0, .t (.func (.yield l) [] [])), (1, .t (.ptr [.slice .any 3 (p.seen.map encSeen)])), (3, .t (.int .i64 (dn i)))]) (fun i => [(RLAB, B), (13, .cells [.t (.int .i64 (behindOf p.next (p.seen.drop i)))]), (9, .cells [.t (.bool false)]), (5, .cells (liftT (encProd p)))]) (fun i => i) p.seen.length (by simp [chainOk]) ?_ ?_
  · refine at_of [] (sub_eq rfl rfl (sub_eq rfl rfl (sub_eq rfl ?_ sub_nil))) ?_
    · rw [hlm, wrap64 (by omega) (by omega), dn_eq]
    · rw [List.drop_of_length_le (Nat.le_refl _)]; rfl
  rintro i ⟨hi, hch⟩
  subst hB
  cases i with
  | zero =>
    rw [show dn 0 = -1 from rfl]
    repeat' (first | refine w_stepZ progOk rfl rfl rfl rfl rfl ?_ | refine w_step progOk rfl rfl rfl ?_ | refine w_nil ?_ | refine w_seq ?_ | refine w_reg progOk rfl rfl ?_ | (refine w_gTP rfl rfl rfl rfl rfl (ht := fun h => ?_) (hf := fun h => ?_) <;> try exact prn) | (refine w_gFP rfl rfl rfl rfl rfl (ht := fun h => ?_) (hf := fun h => ?_) <;> try exact prn) | refine w_guardU rfl rfl rfl rfl rfl ?_ | (refine w_condP rfl (ht := fun h => ?_) (hf := fun h => ?_) <;> try exact prn) | refine w_block ?_ | refine w_skip ?_ | refine w_exit ?_ | refine w_ret ?_ | refine w_index progOk rfl rfl rfl rfl rfl rfl rfl (map_get (by assumption)) rfl ?_ | refine w_indexE progOk rfl rfl rfl rfl rfl rfl rfl (by assumption) (map_get (by assumption)) rfl ?_ | refine w_appNil progOk rfl rfl rfl rfl rfl rfl rfl rfl rfl rfl rfl rfl rfl (by simp [chunk]; omega) ?_ | refine w_appRow progOk rfl rfl rfl rfl rfl rfl rfl rfl rfl rfl rfl rfl rfl rfl (by simp [chunk]; omega) ?_ | refine s_step rfl rfl rfl rfl ?_ | refine s_nil ?_ | (refine s_gTP rfl rfl rfl rfl rfl (ht := fun h => ?_) (hf := fun h => ?_) <;> try exact prn) | (refine s_gFP rfl rfl rfl rfl rfl (ht := fun h => ?_) (hf := fun h => ?_) <;> try exact prn) | refine s_guardU rfl rfl rfl rfl rfl ?_ | refine s_index rfl rfl rfl rfl rfl rfl rfl (map_get (by assumption)) rfl ?_ | fail)
    refine ⟨.inl rfl, rfl, _, _, _, _, rfl, (by simp), rfl, ?_⟩
    repeat' (first | refine w_stepZ progOk rfl rfl rfl rfl rfl ?_ | refine w_step progOk rfl rfl rfl ?_ | refine w_nil ?_ | refine w_seq ?_ | refine w_reg progOk rfl rfl ?_ | (refine w_gTP rfl rfl rfl rfl rfl (ht := fun h => ?_) (hf := fun h => ?_) <;> try exact prn) | (refine w_gFP rfl rfl rfl rfl rfl (ht := fun h => ?_) (hf := fun h => ?_) <;> try exact prn) | refine w_guardU rfl rfl rfl rfl rfl ?_ | (refine w_condP rfl (ht := fun h => ?_) (hf := fun h => ?_) <;> try exact prn) | refine w_block ?_ | refine w_skip ?_ | refine w_exit ?_ | refine w_ret ?_ | refine w_index progOk rfl rfl rfl rfl rfl rfl rfl (map_get (by assumption)) rfl ?_ | refine w_indexE progOk rfl rfl rfl rfl rfl rfl rfl (by assumption) (map_get (by assumption)) rfl ?_ | refine w_appNil progOk rfl rfl rfl rfl rfl rfl rfl rfl rfl rfl rfl rfl rfl (by simp [chunk]; omega) ?_ | refine w_appRow progOk rfl rfl rfl rfl rfl rfl rfl rfl rfl rfl rfl rfl rfl rfl (by simp [chunk]; omega) ?_ | refine s_step rfl rfl rfl rfl ?_ | refine s_nil ?_ | (refine s_gTP rfl rfl rfl rfl rfl (ht := fun h => ?_) (hf := fun h => ?_) <;> try exact prn) | (refine s_gFP rfl rfl rfl rfl rfl (ht := fun h => ?_) (hf := fun h => ?_) <;> try exact prn) | refine s_guardU rfl rfl rfl rfl rfl ?_ | refine s_index rfl rfl rfl rfl rfl rfl rfl (map_get (by assumption)) rfl ?_ | fail)
    exact w_fin rfl (subB (known_yes hb hch))
  | succ i =>
    have hr : p.seen[i]? = some p.seen[i] := List.getElem?_eq_getElem (by omega)
    generalize p.seen[i] = r at hr
    rw [show dn (i + 1) = (i : Int) from rfl]
    repeat' (first | refine w_stepZ progOk rfl rfl rfl rfl rfl ?_ | refine w_step progOk rfl rfl rfl ?_ | refine w_nil ?_ | refine w_seq ?_ | refine w_reg progOk rfl rfl ?_ | (refine w_gTP rfl rfl rfl rfl rfl (ht := fun h => ?_) (hf := fun h => ?_) <;> try exact prn) | (refine w_gFP rfl rfl rfl rfl rfl (ht := fun h => ?_) (hf := fun h => ?_) <;> try exact prn) | refine w_guardU rfl rfl rfl rfl rfl ?_ | (refine w_condP rfl (ht := fun h => ?_) (hf := fun h => ?_) <;> try exact prn) | refine w_block ?_ | refine w_skip ?_ | refine w_exit ?_ | refine w_ret ?_ | refine w_index progOk rfl rfl rfl rfl rfl rfl rfl (map_get (by assumption)) rfl ?_ | refine w_indexE progOk rfl rfl rfl rfl rfl rfl rfl (by assumption) (map_get (by assumption)) rfl ?_ | refine w_appNil progOk rfl rfl rfl rfl rfl rfl rfl rfl rfl rfl rfl rfl rfl (by simp [chunk]; omega) ?_ | refine w_appRow progOk rfl rfl rfl rfl rfl rfl rfl rfl rfl rfl rfl rfl rfl rfl (by simp [chunk]; omega) ?_ | refine s_step rfl rfl rfl rfl ?_ | refine s_nil ?_ | (refine s_gTP rfl rfl rfl rfl rfl (ht := fun h => ?_) (hf := fun h => ?_) <;> try exact prn) | (refine s_gFP rfl rfl rfl rfl rfl (ht := fun h => ?_) (hf := fun h => ?_) <;> try exact prn) | refine s_guardU rfl rfl rfl rfl rfl ?_ | refine s_index rfl rfl rfl rfl rfl rfl rfl (map_get (by assumption)) rfl ?_ | refine w_yield (b := RLAB) rfl rfl rfl rfl rfl rfl rfl rfl rfl rfl ?_ | refine ⟨rfl, _, rfl, ?_⟩ | refine ⟨_, _, _, _, rfl, rfl, _, rfl, ?_⟩ | fail)
    all_goals try (refine ⟨.inr rfl, rfl, _, _, _, _, rfl, (by simp), rfl, ?_⟩; exact w_fin rfl (subB (known_ch (chain_no hr hch (by unfold okSeen; omega)))))
    all_goals (
      have hbb := chain_behind (by omega) (by omega) hch
      have hw : IntKind.i64.wrap (behindOf p.next (p.seen.drop (i + 1)) - r.count) = behindOf p.next (p.seen.drop (i + 1)) - r.count := wrap64 (by omega) (by omega))
    · refine ⟨.inr rfl, rfl, _, _, _, _, rfl, (by simp), rfl, ?_⟩
      exact w_fin rfl (subB (known_ch (chain_no2 hr hch (by unfold okSeen; omega))))
    · refine w_next i ⟨by omega, ?_⟩ (by omega) [5] (sub_eq rfl rfl (sub_eq rfl rfl (sub_eq rfl ?_ sub_nil))) ?_
      · rw [drop_cons hr]; simp only [chainOk, hch, Bool.and_true, decide_eq_true_eq]; unfold okSeen; omega
      · rw [wrap64 (by omega) (by omega), dn_eq]; rfl
      · rw [drop_cons hr]; rfl

end Go.Proofs.YtpdmaenhenfofaaGreatDoor
