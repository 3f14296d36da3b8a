/- Contracts of references: the bytes of producers' states; of all entries. -/
import Derived.Test.YtpdmaenhenfofaaGreatDoorRi
set_option linter.unusedVariables false
set_option linter.unusedSimpArgs false
namespace Go.Proofs.YtpdmaenhenfofaaGreatDoor
open Go.Am
attribute [local irreducible] Decidable.decide
set_option maxRecDepth 100000
set_option maxHeartbeats 1000000

theorem chain_seen {next : Int} (h0 : 0 ≤ next) (h1 : next ≤ 1048576) : ∀ {l : List Seen}, chainOk next l = true → ∀ s ∈ l, okSeen s ∧ s.seq ≤ 1048576
  | [], _, s, hs => by simp at hs
  | t :: r, h, s, hs => by
    have hb := chain_behind h0 h1 h
    simp only [chainOk, Bool.and_eq_true, decide_eq_true_eq] at h
    rcases List.mem_cons.1 hs with rfl | hs
    · exact ⟨h.1.1, hb.2⟩
    · exact chain_seen h0 h1 h.2 s hs

theorem seenB_len {s : Seen} (h : okSeen s) (h1 : s.seq ≤ 1048576) : (seenB s).length ≤ 18 := by
  unfold okSeen at h
  have l1 := vint_len6 (n := s.seq.toNat) (by omega)
  have l2 := vint_len6 (n := s.count.toNat) (by omega)
  have l3 := vint_len6 (n := (s.base + 1).toNat) (by omega)
  simp [seenB, nums]; omega

theorem seens_len : ∀ {l : List Seen}, (∀ s ∈ l, okSeen s ∧ s.seq ≤ 1048576) → (l.flatMap seenB).length ≤ 18 * l.length
  | [], _ => by simp
  | s :: l, h => by
    have ih := seens_len (l := l) fun t ht => h t (List.mem_cons_of_mem _ ht)
    have h1 := h s (by simp)
    have h2 := seenB_len h1.1 h1.2
    simp only [List.flatMap_cons, List.length_append, List.length_cons]; omega

theorem bytes7_6 (x : Entry) (hk : x.kind = 6) (hm : mayE x = true) (ha : x.b.recs.length ≤ 1000000) (hp : x.prod.seen.length ≤ 1000000) : Ct Tryz.prog 34 [.agg (liftT (encEntry x))] [] (.tuple [.t (.str ([6] ++ nums [x.prod.pid, x.prod.epoch, x.prod.next, (x.prod.seen.length : Int)] ++ x.prod.seen.flatMap seenB)), .t (.int .i64 0)]) [] := by
  have hma := (mayE_alt hm).2
  simp only [hk, if_true, Int.reduceEq, if_false, true_and] at hma
  simp only [knownP, Bool.and_eq_true, decide_eq_true_eq] at hma
  obtain ⟨hbd, hch⟩ := hma
  unfold boundsP at hbd
  have hsn := chain_seen (by omega) (by omega) hch
  have hkb := kb_enc (k := x.kind) (kb := 6) hk
  have hS1 : Sub (.t (.slice .full 1 (chunk 1 1 [T.int .u8 (IntKind.u8.wrap x.kind)]))) (.t (.slice .any 1 ([6].map encByte))) := hkb ▸ sub_slice
  have hlm : (x.prod.seen.map encSeen).length = x.prod.seen.length := List.length_map ..
  have hnl : (nums [x.prod.pid, x.prod.epoch, x.prod.next, (x.prod.seen.length : Int)]).length ≤ 100 := by
    have l1 := vint_len6 (n := x.prod.pid.toNat) (by omega)
    have l2 := vint_len6 (n := x.prod.epoch.toNat) (by omega)
    have l3 := vint_len6 (n := x.prod.next.toNat) (by omega)
    have l4 := vint_len6 (n := x.prod.seen.length) (by omega)
    simp [nums]; omega
  have hsx : Sub (.t (.slice .full 1 (chunk 1 4 [T.int .i64 x.prod.pid, T.int .i64 x.prod.epoch, T.int .i64 x.prod.next, T.int .i64 ((x.prod.seen.map encSeen).length : Int)]))) (.t (.slice .any 1 ([x.prod.pid, x.prod.epoch, x.prod.next, (x.prod.seen.length : Int)].map encInt))) := by
    rw [hlm]; exact sub_slice
  refine ct0 progOk Tryz.func34 rfl false rfl rfl ?_
  have cm : Ct Tryz.prog 63 [.agg (liftT (encEntry x))] [] (.t (.bool true)) [] := hm ▸ may7_ok x ha hp
  repeat' (first | refine w_stepZ progOk rfl rfl rfl rfl rfl ?_ | refine w_step progOk rfl rfl rfl ?_ | refine w_nil ?_ | refine w_seq ?_ | refine w_reg progOk rfl rfl ?_ | (refine w_gTP rfl rfl rfl rfl rfl (ht := fun h => ?_) (hf := fun h => ?_) <;> try exact prn) | (refine w_gFP rfl rfl rfl rfl rfl (ht := fun h => ?_) (hf := fun h => ?_) <;> try exact prn) | refine w_guardU rfl rfl rfl rfl rfl ?_ | (refine w_condP rfl (ht := fun h => ?_) (hf := fun h => ?_) <;> try exact prn) | refine w_block ?_ | refine w_skip ?_ | refine w_exit ?_ | refine w_ret ?_ | refine w_index progOk rfl rfl rfl rfl rfl rfl rfl (map_get (by assumption)) rfl ?_ | refine w_indexE progOk rfl rfl rfl rfl rfl rfl rfl (by assumption) (map_get (by assumption)) rfl ?_ | refine w_appNil progOk rfl rfl rfl rfl rfl rfl rfl rfl rfl rfl rfl rfl rfl (by simp [chunk]; omega) ?_ | refine w_appRow progOk rfl rfl rfl rfl rfl rfl rfl rfl rfl rfl rfl rfl rfl rfl (by simp [chunk]; omega) ?_ | refine s_step rfl rfl rfl rfl ?_ | refine s_nil ?_ | (refine s_gTP rfl rfl rfl rfl rfl (ht := fun h => ?_) (hf := fun h => ?_) <;> try exact prn) | (refine s_gFP rfl rfl rfl rfl rfl (ht := fun h => ?_) (hf := fun h => ?_) <;> try exact prn) | refine s_guardU rfl rfl rfl rfl rfl ?_ | refine s_index rfl rfl rfl rfl rfl rfl rfl (map_get (by assumption)) rfl ?_ | refine w_call progOk rfl rfl rfl rfl rfl rfl rfl (cm) rfl rfl ?_ | refine w_callZ progOk rfl rfl rfl rfl (numbers_ok [6] [x.prod.pid, x.prod.epoch, x.prod.next, (x.prod.seen.length : Int)] (by simp; omega) (by simp) (by simp)) rfl rfl rfl ⟨hS1, hsx, trivial⟩ ?_ | fail)
  refine w_loop (ι := Nat) (fun i => i ≤ x.prod.seen.length) (fun i => [(1, .ref 2 0), (4, .t (.slice .any 1 (([6] ++ nums [x.prod.pid, x.prod.epoch, x.prod.next, (x.prod.seen.length : Int)] ++ (x.prod.seen.take i).flatMap seenB).map encByte))), (7, .t (.int .i64 i))]) (fun _ => [(2, .cells (liftT (encEntry x)))]) (fun i => x.prod.seen.length - i) 0 (by simp) ?_ ?_
  · exact at_of [] (sub_eq rfl rfl (sub_eq rfl (by simp) (sub_eq rfl rfl sub_nil))) rfl
  rintro i hi
  by_cases hlt : i < x.prod.seen.length
  · have hr : x.prod.seen[i]? = some x.prod.seen[i] := List.getElem?_eq_getElem hlt
    have hrok := hsn x.prod.seen[i] (List.getElem_mem hlt)
    generalize x.prod.seen[i] = r at hr hrok
    have hok := hrok.1; unfold okSeen at hok
    have hl5 := seens_len (l := x.prod.seen.take i) fun s hs => hsn s (List.mem_of_mem_take hs)
    rw [List.length_take] at hl5
    have hsy : Sub (.t (.slice .full 1 (chunk 1 3 [T.int .i64 r.seq, T.int .i64 r.count, T.int .i64 (IntKind.i64.wrap (r.base + 1))]))) (.t (.slice .any 1 ([r.seq, r.count, r.base + 1].map encInt))) := by
      rw [wrap64 (by omega) (by omega)]; exact sub_slice
    repeat' (first | refine w_stepZ progOk rfl rfl rfl rfl rfl ?_ | refine w_step progOk rfl rfl rfl ?_ | refine w_nil ?_ | refine w_seq ?_ | refine w_reg progOk rfl rfl ?_ | (refine w_gTP rfl rfl rfl rfl rfl (ht := fun h => ?_) (hf := fun h => ?_) <;> try exact prn) | (refine w_gFP rfl rfl rfl rfl rfl (ht := fun h => ?_) (hf := fun h => ?_) <;> try exact prn) | refine w_guardU rfl rfl rfl rfl rfl ?_ | (refine w_condP rfl (ht := fun h => ?_) (hf := fun h => ?_) <;> try exact prn) | refine w_block ?_ | refine w_skip ?_ | refine w_exit ?_ | refine w_ret ?_ | refine w_index progOk rfl rfl rfl rfl rfl rfl rfl (map_get (by assumption)) rfl ?_ | refine w_indexE progOk rfl rfl rfl rfl rfl rfl rfl (by assumption) (map_get (by assumption)) rfl ?_ | refine w_appNil progOk rfl rfl rfl rfl rfl rfl rfl rfl rfl rfl rfl rfl rfl (by simp [chunk]; omega) ?_ | refine w_appRow progOk rfl rfl rfl rfl rfl rfl rfl rfl rfl rfl rfl rfl rfl rfl (by simp [chunk]; omega) ?_ | refine s_step rfl rfl rfl rfl ?_ | refine s_nil ?_ | (refine s_gTP rfl rfl rfl rfl rfl (ht := fun h => ?_) (hf := fun h => ?_) <;> try exact prn) | (refine s_gFP rfl rfl rfl rfl rfl (ht := fun h => ?_) (hf := fun h => ?_) <;> try exact prn) | refine s_guardU rfl rfl rfl rfl rfl ?_ | refine s_index rfl rfl rfl rfl rfl rfl rfl (map_get (by assumption)) rfl ?_ | refine w_callZ progOk rfl rfl rfl rfl (numbers_ok _ [r.seq, r.count, r.base + 1] (by simp; omega) (by simp) (by simp only [List.length_append, List.length_cons, List.length_nil, flagB]; omega)) rfl rfl rfl ⟨Sub.refl _, hsy, trivial⟩ ?_ | fail)
    refine w_next (i + 1) (by omega) (by omega) [8] (sub_eq rfl rfl (sub_eq rfl ?_ (sub_eq rfl ?_ sub_nil))) rfl
    · rw [take_succ hr, List.flatMap_append]; simp only [List.flatMap_cons, List.flatMap_nil, List.append_nil, ← List.append_assoc]; rfl
    · rw [wrap64 (by omega) (by omega)]; rfl
  · repeat' (first | refine w_stepZ progOk rfl rfl rfl rfl rfl ?_ | refine w_step progOk rfl rfl rfl ?_ | refine w_nil ?_ | refine w_seq ?_ | refine w_reg progOk rfl rfl ?_ | (refine w_gTP rfl rfl rfl rfl rfl (ht := fun h => ?_) (hf := fun h => ?_) <;> try exact prn) | (refine w_gFP rfl rfl rfl rfl rfl (ht := fun h => ?_) (hf := fun h => ?_) <;> try exact prn) | refine w_guardU rfl rfl rfl rfl rfl ?_ | (refine w_condP rfl (ht := fun h => ?_) (hf := fun h => ?_) <;> try exact prn) | refine w_block ?_ | refine w_skip ?_ | refine w_exit ?_ | refine w_ret ?_ | refine w_index progOk rfl rfl rfl rfl rfl rfl rfl (map_get (by assumption)) rfl ?_ | refine w_indexE progOk rfl rfl rfl rfl rfl rfl rfl (by assumption) (map_get (by assumption)) rfl ?_ | refine w_appNil progOk rfl rfl rfl rfl rfl rfl rfl rfl rfl rfl rfl rfl rfl (by simp [chunk]; omega) ?_ | refine w_appRow progOk rfl rfl rfl rfl rfl rfl rfl rfl rfl rfl rfl rfl rfl rfl (by simp [chunk]; omega) ?_ | refine s_step rfl rfl rfl rfl ?_ | refine s_nil ?_ | (refine s_gTP rfl rfl rfl rfl rfl (ht := fun h => ?_) (hf := fun h => ?_) <;> try exact prn) | (refine s_gFP rfl rfl rfl rfl rfl (ht := fun h => ?_) (hf := fun h => ?_) <;> try exact prn) | refine s_guardU rfl rfl rfl rfl rfl ?_ | refine s_index rfl rfl rfl rfl rfl rfl rfl (map_get (by assumption)) rfl ?_ | refine w_convS progOk rfl rfl rfl rfl rfl rfl (bytesE_eq _).symm rfl ?_ | fail)
    refine w_fin rfl (Sub.of_eq ?_); rw [List.take_of_length_le (by omega)]

theorem bytes7_ok (x : Entry) (hm : mayE x = true) (ha : x.b.recs.length ≤ 1000000) (hp : x.prod.seen.length ≤ 1000000) : Ct Tryz.prog 34 [.agg (liftT (encEntry x))] [] (.tuple [.t (.str (entryB x)), .t (.int .i64 0)]) [] := by
  unfold entryB
  rcases mayE_kind hm with h | h | h | h | h | h | h
  · have := bytes7_0 x h hm ha hp; simpa [h] using this
  · have := bytes7_1 x h hm ha hp; simpa [h] using this
  · have := bytes7_2 x h hm ha hp; simpa [h] using this
  · have := bytes7_3 x h hm ha hp; simpa [h] using this
  · have := bytes7_4 x h hm ha hp; simpa [h] using this
  · have := bytes7_5 x h hm ha hp; simpa [h] using this
  · have := bytes7_6 x h hm ha hp; simpa [h] using this

theorem bytes7_no (x : Entry) (hm : mayE x = false) (ha : x.b.recs.length ≤ 1000000) (hp : x.prod.seen.length ≤ 1000000) : Ct Tryz.prog 34 [.agg (liftT (encEntry x))] [] (.tuple [.t (.str []), .t (.int .i64 2)]) [] := by
  refine ct0 progOk Tryz.func34 rfl false rfl rfl ?_
  have cm : Ct Tryz.prog 63 [.agg (liftT (encEntry x))] [] (.t (.bool false)) [] := hm ▸ may7_ok x ha hp
  repeat' (first | refine w_stepZ progOk rfl rfl rfl rfl rfl ?_ | refine w_step progOk rfl rfl rfl ?_ | refine w_nil ?_ | refine w_seq ?_ | refine w_reg progOk rfl rfl ?_ | (refine w_gTP rfl rfl rfl rfl rfl (ht := fun h => ?_) (hf := fun h => ?_) <;> try exact prn) | (refine w_gFP rfl rfl rfl rfl rfl (ht := fun h => ?_) (hf := fun h => ?_) <;> try exact prn) | refine w_guardU rfl rfl rfl rfl rfl ?_ | (refine w_condP rfl (ht := fun h => ?_) (hf := fun h => ?_) <;> try exact prn) | refine w_block ?_ | refine w_skip ?_ | refine w_exit ?_ | refine w_ret ?_ | refine w_index progOk rfl rfl rfl rfl rfl rfl rfl (map_get (by assumption)) rfl ?_ | refine w_indexE progOk rfl rfl rfl rfl rfl rfl rfl (by assumption) (map_get (by assumption)) rfl ?_ | refine w_appNil progOk rfl rfl rfl rfl rfl rfl rfl rfl rfl rfl rfl rfl rfl (by simp [chunk]; omega) ?_ | refine w_appRow progOk rfl rfl rfl rfl rfl rfl rfl rfl rfl rfl rfl rfl rfl rfl (by simp [chunk]; omega) ?_ | refine s_step rfl rfl rfl rfl ?_ | refine s_nil ?_ | (refine s_gTP rfl rfl rfl rfl rfl (ht := fun h => ?_) (hf := fun h => ?_) <;> try exact prn) | (refine s_gFP rfl rfl rfl rfl rfl (ht := fun h => ?_) (hf := fun h => ?_) <;> try exact prn) | refine s_guardU rfl rfl rfl rfl rfl ?_ | refine s_index rfl rfl rfl rfl rfl rfl rfl (map_get (by assumption)) rfl ?_ | refine w_call progOk rfl rfl rfl rfl rfl rfl rfl (cm) rfl rfl ?_ | fail)
  exact w_fin rfl (Sub.refl _)

end Go.Proofs.YtpdmaenhenfofaaGreatDoor
