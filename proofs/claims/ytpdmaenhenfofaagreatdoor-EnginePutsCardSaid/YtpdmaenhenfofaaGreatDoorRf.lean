/- Contracts of references: producers that may be known. -/
import Derived.Test.YtpdmaenhenfofaaGreatDoorRe
set_option linter.unusedVariables false
set_option linter.unusedSimpArgs false
namespace Go.Proofs.YtpdmaenhenfofaaGreatDoor
open Go.Am
attribute [local irreducible] Decidable.decide
set_option maxRecDepth 100000
set_option maxHeartbeats 1000000

def okSeen (s : Seen) : Prop := 0 ≤ s.seq ∧ 1 ≤ s.count ∧ s.count ≤ 4 ∧ -1 ≤ s.base ∧ s.base ≤ 1048576
instance (s : Seen) : Decidable (okSeen s) := by unfold okSeen; infer_instance
def behindOf (next : Int) : List Seen → Int
  | [] => next
  | t :: _ => t.seq
def chainOk (next : Int) : List Seen → Bool
  | [] => true
  | s :: r => decide (okSeen s ∧ s.seq ≤ behindOf next r - s.count) && chainOk next r
def boundsP (p : Prod) : Prop := 1 ≤ p.pid ∧ p.pid ≤ 8 ∧ 0 ≤ p.epoch ∧ p.epoch ≤ 100 ∧ 0 ≤ p.next ∧ p.next ≤ 1048576 ∧ (p.seen.length : Int) ≤ 3
instance (p : Prod) : Decidable (boundsP p) := by unfold boundsP; infer_instance
def knownP (p : Prod) : Bool := decide (boundsP p) && chainOk p.next p.seen

theorem chain_behind {next : Int} (h0 : 0 ≤ next) (h1 : next ≤ 1048576) : ∀ {l : List Seen}, chainOk next l = true → 0 ≤ behindOf next l ∧ behindOf next l ≤ 1048576
  | [], _ => ⟨h0, h1⟩
  | s :: r, h => by
    simp only [chainOk, Bool.and_eq_true, decide_eq_true_eq] at h
    have ih := chain_behind h0 h1 h.2
    have := h.1.1; unfold okSeen at this
    simp only [behindOf]; omega

theorem known_no {p : Prod} (h : ¬ boundsP p) : false = knownP p := by simp [knownP, h]
theorem known_ch {p : Prod} (h : chainOk p.next p.seen = false) : false = knownP p := by simp [knownP, h]
theorem known_yes {p : Prod} (h : boundsP p) (h2 : chainOk p.next p.seen = true) : true = knownP p := by simp [knownP, h, h2]

theorem drop_cons {α : Type} {l : List α} {i : Nat} {x : α} (h : l[i]? = some x) : l.drop i = x :: l.drop (i + 1) := by
  obtain ⟨hi, rfl⟩ := List.getElem?_eq_some_iff.1 h
  exact List.drop_eq_getElem_cons hi

theorem ch_no {next : Int} {l : List Seen} {r : Seen} (h : ¬ okSeen r) : (decide (okSeen r ∧ r.seq ≤ behindOf next l - r.count) && chainOk next l) = false := by simp [h]
theorem ch_4 {next b : Int} {l : List Seen} {r : Seen} (h0 : 0 ≤ next) (h1 : next ≤ 1048576) (hok : okSeen r) (hb : behindOf next l = b) (h : IntKind.i64.wrap (b - r.count) < r.seq) : (decide (okSeen r ∧ r.seq ≤ behindOf next l - r.count) && chainOk next l) = false := by
  cases hc : chainOk next l with
  | false => simp
  | true =>
    have := chain_behind h0 h1 hc
    have hk := hok; unfold okSeen at hk
    rw [hb] at this ⊢
    rw [wrap64 (by omega) (by omega)] at h
    have : ¬ (r.seq ≤ b - r.count) := by omega
    simp [this]
theorem ch_next {next b : Int} {l : List Seen} {r : Seen} (h0 : 0 ≤ next) (h1 : next ≤ 1048576) (hok : okSeen r) (hb : behindOf next l = b) (h : ¬ IntKind.i64.wrap (b - r.count) < r.seq) : (decide (okSeen r ∧ r.seq ≤ behindOf next l - r.count) && chainOk next l) = chainOk next l := by
  cases hc : chainOk next l with
  | false => simp
  | true =>
    have := chain_behind h0 h1 hc
    have hk := hok; unfold okSeen at hk
    rw [hb] at this ⊢
    rw [wrap64 (by omega) (by omega)] at h
    have : r.seq ≤ b - r.count := by omega
    simp [this, hok]

theorem known7_ok (p : Prod) : Ct Tryz.prog 121 [.agg (liftT (encProd p))] [] (.t (.bool (knownP p))) [] := by
  refine ct0 progOk Tryz.func121 rfl false rfl rfl ?_
  have hlm : (p.seen.map encSeen).length = p.seen.length := List.length_map ..
  repeat' (first | refine w_stepZ progOk rfl rfl rfl rfl rfl ?_ | refine w_step progOk rfl rfl rfl ?_ | refine w_nil ?_ | refine w_seq ?_ | refine w_reg progOk rfl rfl ?_ | (refine w_gTP rfl rfl rfl rfl rfl (ht := fun h => ?_) (hf := fun h => ?_) <;> try exact prn) | (refine w_gFP rfl rfl rfl rfl rfl (ht := fun h => ?_) (hf := fun h => ?_) <;> try exact prn) | refine w_guardU rfl rfl rfl rfl rfl ?_ | (refine w_condP rfl (ht := fun h => ?_) (hf := fun h => ?_) <;> try exact prn) | refine w_block ?_ | refine w_skip ?_ | refine w_exit ?_ | refine w_ret ?_ | refine w_index progOk rfl rfl rfl rfl rfl rfl rfl (map_get (by assumption)) rfl ?_ | refine w_indexE progOk rfl rfl rfl rfl rfl rfl rfl (by assumption) (map_get (by assumption)) rfl ?_ | refine w_appNil progOk rfl rfl rfl rfl rfl rfl rfl rfl rfl rfl rfl rfl rfl (by simp [chunk]; omega) ?_ | refine w_appRow progOk rfl rfl rfl rfl rfl rfl rfl rfl rfl rfl rfl rfl rfl rfl (by simp [chunk]; omega) ?_ | refine s_step rfl rfl rfl rfl ?_ | refine s_nil ?_ | (refine s_gTP rfl rfl rfl rfl rfl (ht := fun h => ?_) (hf := fun h => ?_) <;> try exact prn) | (refine s_gFP rfl rfl rfl rfl rfl (ht := fun h => ?_) (hf := fun h => ?_) <;> try exact prn) | refine s_guardU rfl rfl rfl rfl rfl ?_ | refine s_index rfl rfl rfl rfl rfl rfl rfl (map_get (by assumption)) rfl ?_ | refine w_call progOk rfl rfl rfl rfl rfl rfl rfl (within_ok _ _ _) rfl rfl ?_ | refine w_call progOk rfl rfl rfl rfl rfl rfl rfl (producer7_ok _ _) rfl rfl ?_ | fail)
  all_goals try (refine w_fin rfl (subB (known_no ?_)); unfold boundsP; omega)
  have hb : boundsP p := by unfold boundsP; omega
  have hb' := hb; unfold boundsP at hb'
  refine w_loop (ι := Nat) (fun i => i ≤ p.seen.length ∧ chainOk p.next p.seen = chainOk p.next (p.seen.drop i)) (fun i => [(1, .ref 2 0), (3, .t (.int .i64 i))]) (fun _ => [(2, .cells (liftT (encProd p)))]) (fun i => p.seen.length - i) 0 (by simp) ?_ ?_
  · exact at_of [] (sub_eq rfl rfl (sub_eq rfl rfl sub_nil)) rfl
  rintro i ⟨hi, hch⟩
  by_cases hlt : i < p.seen.length
  · have hr : p.seen[i]? = some p.seen[i] := List.getElem?_eq_getElem hlt
    generalize p.seen[i] = r at hr
    have hw : IntKind.i64.wrap ((i : Int) + 1) = ((i + 1 : Nat) : Int) := by rw [wrap64 (by omega) (by omega)]; rfl
    rw [drop_cons hr] at hch
    simp only [chainOk] at hch
    by_cases h2 : i + 1 < p.seen.length
    · have hs : p.seen[i + 1]? = some p.seen[i + 1] := List.getElem?_eq_getElem h2
      generalize p.seen[i + 1] = s at hs
      have hbh : behindOf p.next (p.seen.drop (i + 1)) = s.seq := by rw [drop_cons hs]; rfl
      repeat' (first | refine w_stepZ progOk rfl rfl rfl rfl rfl ?_ | refine w_step progOk rfl rfl rfl ?_ | refine w_nil ?_ | refine w_seq ?_ | refine w_reg progOk rfl rfl ?_ | (refine w_gTP rfl rfl rfl rfl rfl (ht := fun h => ?_) (hf := fun h => ?_) <;> try exact prn) | (refine w_gFP rfl rfl rfl rfl rfl (ht := fun h => ?_) (hf := fun h => ?_) <;> try exact prn) | refine w_guardU rfl rfl rfl rfl rfl ?_ | (refine w_condP rfl (ht := fun h => ?_) (hf := fun h => ?_) <;> try exact prn) | refine w_block ?_ | refine w_skip ?_ | refine w_exit ?_ | refine w_ret ?_ | refine w_index progOk rfl rfl rfl rfl rfl rfl rfl (map_get (by assumption)) rfl ?_ | refine w_indexE progOk rfl rfl rfl rfl rfl rfl rfl (by assumption) (map_get (by assumption)) rfl ?_ | refine w_appNil progOk rfl rfl rfl rfl rfl rfl rfl rfl rfl rfl rfl rfl rfl (by simp [chunk]; omega) ?_ | refine w_appRow progOk rfl rfl rfl rfl rfl rfl rfl rfl rfl rfl rfl rfl rfl rfl (by simp [chunk]; omega) ?_ | refine s_step rfl rfl rfl rfl ?_ | refine s_nil ?_ | (refine s_gTP rfl rfl rfl rfl rfl (ht := fun h => ?_) (hf := fun h => ?_) <;> try exact prn) | (refine s_gFP rfl rfl rfl rfl rfl (ht := fun h => ?_) (hf := fun h => ?_) <;> try exact prn) | refine s_guardU rfl rfl rfl rfl rfl ?_ | refine s_index rfl rfl rfl rfl rfl rfl rfl (map_get (by assumption)) rfl ?_ | refine w_call progOk rfl rfl rfl rfl rfl rfl rfl (within_ok _ _ _) rfl rfl ?_ | fail)
      all_goals first
        | exact w_fin rfl (subB (known_ch (hch.trans (ch_no (by unfold okSeen; omega)))))
        | exact w_fin rfl (subB (known_ch (hch.trans (ch_4 (by omega) (by omega) (by unfold okSeen; omega) (hbh) h))))
        | (refine w_next (i + 1) ⟨by omega, hch.trans (ch_next (by omega) (by omega) (by unfold okSeen; omega) (hbh) h)⟩ (by omega) [4] (sub_eq rfl rfl (sub_eq rfl (congrArg (fun z => AV.t (T.int .i64 z)) hw) sub_nil)) rfl)
    · repeat' (first | refine w_stepZ progOk rfl rfl rfl rfl rfl ?_ | refine w_step progOk rfl rfl rfl ?_ | refine w_nil ?_ | refine w_seq ?_ | refine w_reg progOk rfl rfl ?_ | (refine w_gTP rfl rfl rfl rfl rfl (ht := fun h => ?_) (hf := fun h => ?_) <;> try exact prn) | (refine w_gFP rfl rfl rfl rfl rfl (ht := fun h => ?_) (hf := fun h => ?_) <;> try exact prn) | refine w_guardU rfl rfl rfl rfl rfl ?_ | (refine w_condP rfl (ht := fun h => ?_) (hf := fun h => ?_) <;> try exact prn) | refine w_block ?_ | refine w_skip ?_ | refine w_exit ?_ | refine w_ret ?_ | refine w_index progOk rfl rfl rfl rfl rfl rfl rfl (map_get (by assumption)) rfl ?_ | refine w_indexE progOk rfl rfl rfl rfl rfl rfl rfl (by assumption) (map_get (by assumption)) rfl ?_ | refine w_appNil progOk rfl rfl rfl rfl rfl rfl rfl rfl rfl rfl rfl rfl rfl (by simp [chunk]; omega) ?_ | refine w_appRow progOk rfl rfl rfl rfl rfl rfl rfl rfl rfl rfl rfl rfl rfl rfl (by simp [chunk]; omega) ?_ | refine s_step rfl rfl rfl rfl ?_ | refine s_nil ?_ | (refine s_gTP rfl rfl rfl rfl rfl (ht := fun h => ?_) (hf := fun h => ?_) <;> try exact prn) | (refine s_gFP rfl rfl rfl rfl rfl (ht := fun h => ?_) (hf := fun h => ?_) <;> try exact prn) | refine s_guardU rfl rfl rfl rfl rfl ?_ | refine s_index rfl rfl rfl rfl rfl rfl rfl (map_get (by assumption)) rfl ?_ | refine w_call progOk rfl rfl rfl rfl rfl rfl rfl (within_ok _ _ _) rfl rfl ?_ | fail)
      all_goals first
        | exact w_fin rfl (subB (known_ch (hch.trans (ch_no (by unfold okSeen; omega)))))
        | exact w_fin rfl (subB (known_ch (hch.trans (ch_4 (by omega) (by omega) (by unfold okSeen; omega) (by rw [List.drop_of_length_le (by omega)]; rfl) h))))
        | (refine w_next (i + 1) ⟨by omega, hch.trans (ch_next (by omega) (by omega) (by unfold okSeen; omega) (by rw [List.drop_of_length_le (by omega)]; rfl) h)⟩ (by omega) [4] (sub_eq rfl rfl (sub_eq rfl (congrArg (fun z => AV.t (T.int .i64 z)) hw) sub_nil)) rfl)
  · repeat' (first | refine w_stepZ progOk rfl rfl rfl rfl rfl ?_ | refine w_step progOk rfl rfl rfl ?_ | refine w_nil ?_ | refine w_seq ?_ | refine w_reg progOk rfl rfl ?_ | (refine w_gTP rfl rfl rfl rfl rfl (ht := fun h => ?_) (hf := fun h => ?_) <;> try exact prn) | (refine w_gFP rfl rfl rfl rfl rfl (ht := fun h => ?_) (hf := fun h => ?_) <;> try exact prn) | refine w_guardU rfl rfl rfl rfl rfl ?_ | (refine w_condP rfl (ht := fun h => ?_) (hf := fun h => ?_) <;> try exact prn) | refine w_block ?_ | refine w_skip ?_ | refine w_exit ?_ | refine w_ret ?_ | refine w_index progOk rfl rfl rfl rfl rfl rfl rfl (map_get (by assumption)) rfl ?_ | refine w_indexE progOk rfl rfl rfl rfl rfl rfl rfl (by assumption) (map_get (by assumption)) rfl ?_ | refine w_appNil progOk rfl rfl rfl rfl rfl rfl rfl rfl rfl rfl rfl rfl rfl (by simp [chunk]; omega) ?_ | refine w_appRow progOk rfl rfl rfl rfl rfl rfl rfl rfl rfl rfl rfl rfl rfl rfl (by simp [chunk]; omega) ?_ | refine s_step rfl rfl rfl rfl ?_ | refine s_nil ?_ | (refine s_gTP rfl rfl rfl rfl rfl (ht := fun h => ?_) (hf := fun h => ?_) <;> try exact prn) | (refine s_gFP rfl rfl rfl rfl rfl (ht := fun h => ?_) (hf := fun h => ?_) <;> try exact prn) | refine s_guardU rfl rfl rfl rfl rfl ?_ | refine s_index rfl rfl rfl rfl rfl rfl rfl (map_get (by assumption)) rfl ?_ | fail)
    exact w_fin rfl (subB (known_yes hb (by rw [hch, List.drop_of_length_le (by omega)]; rfl)))

end Go.Proofs.YtpdmaenhenfofaaGreatDoor
