/- Contracts and laws, joined: Kn, Pk, Pl, Pm, Pn, Po. No condition beside those that each theorem names. -/
import Derived.Test.YtpdmaenhenfofaaGreatDoorZJ3
import Derived.Test.YtpdmaenhenfofaaGreatDoorZM5
import Derived.Test.YtpdmaenhenfofaaGreatDoorZJ4
set_option linter.unusedVariables false
set_option linter.unusedSimpArgs false
namespace Go.Proofs.YtpdmaenhenfofaaGreatDoor
open Go.Am
attribute [local irreducible] Decidable.decide
set_option maxRecDepth 100000
set_option maxHeartbeats 1000000
theorem back_ok (l : List Seen) : Ct Tryz.prog 199 [.t (.slice .any 3 (l.map encSeen))] [] (.t (.func (.func 210) [] [.ptr [.slice .any 3 (l.map encSeen)]])) [] := by
  refine ct0 progOk Tryz.func199 rfl false rfl rfl ?_
  refine w_seq ?_
  refine w_reg progOk rfl rfl ?_
  repeat' (first | refine w_step progOk rfl rfl rfl ?_ | refine w_nil ?_ | fail)
  refine Tr.freezeBox (cs := [.slice .any 3 (l.map encSeen)]) 1 2 rfl rfl rfl rfl ?_
  repeat' (first | refine w_step progOk rfl rfl rfl ?_ | refine w_nil ?_ | refine w_seq ?_ | refine w_reg progOk rfl rfl ?_ | refine w_ret ?_ | fail)
  exact w_fin rfl (Sub.of_eq rfl)
def dn : Nat → Int
  | 0 => -1
  | j + 1 => j
theorem dn_eq (n : Nat) : ((n : Nat) : Int) - 1 = dn n := by
  cases n with
  | zero => rfl
  | succ j => simp [dn]
theorem chain_drop {next : Int} : ∀ {l : List Seen} {i : Nat}, chainOk next (l.drop i) = false → chainOk next l = false
  | l, 0, h => by simpa using h
  | [], i + 1, h => by simp [chainOk] at h
  | a :: r, i + 1, h => by
    have := chain_drop (l := r) (i := i) (by simpa using h)
    simp [chainOk, this]
theorem chain_no {next : Int} {l : List Seen} {i : Nat} {r : Seen} (hr : l[i]? = some r) (h : chainOk next (l.drop (i + 1)) = true) (hn : ¬ okSeen r) : chainOk next l = false := by
  refine chain_drop (i := i) ?_
  rw [drop_cons hr]
  simp [chainOk, hn]
theorem chain_no2 {next : Int} {l : List Seen} {i : Nat} {r : Seen} (hr : l[i]? = some r) (h : chainOk next (l.drop (i + 1)) = true) (hn : ¬ (okSeen r ∧ r.seq ≤ behindOf next (l.drop (i + 1)) - r.count)) : chainOk next l = false := by
  refine chain_drop (i := i) ?_
  rw [drop_cons hr]
  simp only [chainOk, h, hn, decide_false, Bool.false_and]
theorem known_ok (p : Prod) (hp : p.seen.length ≤ 1000000) : Ct Tryz.prog 155 [.agg (liftT (encProd p))] [] (.t (.bool (knownP p))) [] := by
  refine ct0 progOk Tryz.func155 rfl false rfl rfl ?_
  have hlm : (p.seen.map encSeen).length = p.seen.length := List.length_map ..
  repeat' (first | refine w_stepZ progOk rfl rfl rfl rfl rfl ?_ | refine w_step progOk rfl rfl rfl ?_ | refine w_nil ?_ | refine w_seq ?_ | refine w_reg progOk rfl rfl ?_ | (refine w_gFP rfl rfl rfl rfl rfl (ht := fun h => ?_) (hf := fun h => ?_) <;> try exact prn) | (refine w_condP rfl (ht := fun h => ?_) (hf := fun h => ?_) <;> try exact prn) | refine w_block ?_ | refine w_skip ?_ | refine w_ret ?_ | refine w_call progOk rfl rfl rfl rfl rfl rfl rfl (eseq_ok _) rfl rfl ?_ | refine w_call progOk rfl rfl rfl rfl rfl rfl rfl (eproducer_ok _ _) rfl rfl ?_ | refine w_call progOk rfl rfl rfl rfl rfl rfl rfl (back_ok p.seen) rfl rfl ?_ | fail)
  all_goals try (refine w_fin rfl (subB (known_no ?_)); unfold boundsP; omega)
  have hb : boundsP p := by unfold boundsP; omega
  have hb' := hb; unfold boundsP at hb'
  refine Tr.weak (E := [(2, .ref 4 0), (3, .ref 6 0), (28, .t (.func (.func 210) [] [.ptr [.slice .any 3 (p.seen.map encSeen)]]))]) (S := [(6, .cells [.t (.int .i64 p.next)]), (4, .cells [.t (.bool false)]), (2, .cells (liftT (encProd p)))]) ?_ (at_of [] (sub_eq rfl rfl (sub_eq rfl rfl (sub_eq rfl rfl sub_nil))) rfl)
  refine w_range progOk rfl Tryz.func210 rfl rfl (fun l => ?_)
  generalize hB : Blk.loop l .ready none _ _ _ _ _ = B
  repeat' (first | refine w_step progOk rfl rfl rfl ?_ | refine w_nil ?_ | refine w_seq ?_ | refine w_reg progOk rfl rfl ?_ | refine w_block ?_ | fail)
  refine w_loop (ι := Nat) (fun i => i ≤ p.seen.length ∧ chainOk p.next (p.seen.drop i) = true) (fun i => [(0, .t (.func (.yield l) [] [])), (1, .t (.ptr [.slice .any 3 (p.seen.map encSeen)])), (3, .t (.int .i64 (dn i)))]) (fun i => [(RLAB, B), (13, .cells [.t (.int .i64 (behindOf p.next (p.seen.drop i)))]), (9, .cells [.t (.bool false)]), (5, .cells (liftT (encProd p)))]) (fun i => i) p.seen.length (by simp [chainOk]) ?_ ?_
  · refine at_of [] (sub_eq rfl rfl (sub_eq rfl rfl (sub_eq rfl ?_ sub_nil))) ?_
    · rw [hlm, wrap64 (by omega) (by omega), dn_eq]
    · rw [List.drop_of_length_le (Nat.le_refl _)]; rfl
  rintro i ⟨hi, hch⟩
  subst hB
  cases i with
  | zero =>
    rw [show dn 0 = -1 from rfl]
    repeat' (first | refine w_step progOk rfl rfl rfl ?_ | refine w_nil ?_ | refine w_seq ?_ | refine w_reg progOk rfl rfl ?_ | (refine w_condP rfl (ht := fun h => ?_) (hf := fun h => ?_) <;> try exact prn) | refine w_exit ?_ | fail)
    refine ⟨.inl rfl, rfl, _, _, _, _, rfl, (by simp), rfl, ?_⟩
    repeat' (first | refine w_stepZ progOk rfl rfl rfl rfl rfl ?_ | refine w_nil ?_ | refine w_seq ?_ | refine w_reg progOk rfl rfl ?_ | refine w_ret ?_ | fail)
    exact w_fin rfl (subB (known_yes hb hch))
  | succ i =>
    have hr : p.seen[i]? = some p.seen[i] := List.getElem?_eq_getElem (by omega)
    generalize p.seen[i] = r at hr
    rw [show dn (i + 1) = (i : Int) from rfl]
    repeat' (first | refine w_stepZ progOk rfl rfl rfl rfl rfl ?_ | refine w_step progOk rfl rfl rfl ?_ | refine w_nil ?_ | refine w_seq ?_ | refine w_reg progOk rfl rfl ?_ | (refine w_gFP rfl rfl rfl rfl rfl (ht := fun h => ?_) (hf := fun h => ?_) <;> try exact prn) | (refine w_condP rfl (ht := fun h => ?_) (hf := fun h => ?_) <;> try exact prn) | refine w_block ?_ | refine w_skip ?_ | refine w_ret ?_ | refine w_index progOk rfl rfl rfl rfl rfl rfl rfl (map_get (by assumption)) rfl ?_ | refine w_yield (b := RLAB) rfl rfl rfl rfl rfl rfl rfl rfl rfl rfl ?_ | refine ⟨rfl, _, rfl, ?_⟩ | refine ⟨_, _, _, _, rfl, rfl, _, rfl, ?_⟩ | fail)
    all_goals try (refine ⟨.inr rfl, rfl, _, _, _, _, rfl, (by simp), rfl, ?_⟩; exact w_fin rfl (subB (known_ch (chain_no hr hch (by unfold okSeen; omega)))))
    all_goals (
      have hbb := chain_behind (by omega) (by omega) hch
      have hw : IntKind.i64.wrap (behindOf p.next (p.seen.drop (i + 1)) - r.count) = behindOf p.next (p.seen.drop (i + 1)) - r.count := wrap64 (by omega) (by omega))
    · refine ⟨.inr rfl, rfl, _, _, _, _, rfl, (by simp), rfl, ?_⟩
      exact w_fin rfl (subB (known_ch (chain_no2 hr hch (by unfold okSeen; omega))))
    · refine w_next i ⟨by omega, ?_⟩ (by omega) [5] (sub_eq rfl rfl (sub_eq rfl rfl (sub_eq rfl ?_ sub_nil))) ?_
      · rw [drop_cons hr]; simp only [chainOk, hch, Bool.and_true, decide_eq_true_eq]; unfold okSeen; omega
      · rw [wrap64 (by omega) (by omega), dn_eq]; rfl
      · rw [drop_cons hr]; rfl
end Go.Proofs.YtpdmaenhenfofaaGreatDoor

namespace Go.Proofs.YtpdmaenhenfofaaGreatDoor
open Go.Am
attribute [local irreducible] Decidable.decide
set_option maxRecDepth 100000
set_option maxHeartbeats 1000000
theorem wnum_ok {x : T} (b : Bs) (n : Int) (hx : Sub (.t x) (.t (.slice .any 1 (b.map encByte)))) (h0 : 0 ≤ n) (hn : n ≤ 1099511627776) (hb : b.length ≤ 1000000000) :
    Ct Tryz.prog 219 [.t (.int .i64 n), .ref 1 0, .ref 3 0] [(1, .cells [.t (.int .i64 0)]), (3, .cells [.t x])] (.tuple []) [(1, .cells [.t (.int .i64 0)]), (3, .cells [.t (.slice .any 1 ((b ++ vint n.toNat).map encByte))])] := by
  refine ct1 progOk Tryz.func219 rfl rfl ?_
  repeat' (first | refine w_stepZ progOk rfl rfl rfl rfl rfl ?_ | refine w_step progOk rfl rfl rfl ?_ | refine w_nil ?_ | refine w_seq ?_ | refine w_reg progOk rfl rfl ?_ | (refine w_condP rfl (ht := fun h => ?_) (hf := fun h => ?_) <;> try exact prn) | refine w_callZ progOk rfl rfl rfl rfl (fnumber_ok b n h0 hn hb) rfl rfl rfl ⟨hx, Sub.refl _, trivial⟩ ?_ | fail)
  exact w_fin1N [] rfl rfl rfl (Sub.refl _)
theorem wtext_ok (b s : Bs) (hs : s.length ≤ 1024) (hb : b.length ≤ 1000000000) :
    Ct Tryz.prog 220 [.t (.str s), .ref 1 0, .ref 3 0] [(1, .cells [.t (.int .i64 0)]), (3, .cells [.t (.slice .any 1 (b.map encByte))])] (.tuple []) [(1, .cells [.t (.int .i64 0)]), (3, .cells [.t (.slice .any 1 ((b ++ textB s).map encByte))])] := by
  refine ct1 progOk Tryz.func220 rfl rfl ?_
  repeat' (first | refine w_stepZ progOk rfl rfl rfl rfl rfl ?_ | refine w_step progOk rfl rfl rfl ?_ | refine w_nil ?_ | refine w_seq ?_ | refine w_reg progOk rfl rfl ?_ | (refine w_condP rfl (ht := fun h => ?_) (hf := fun h => ?_) <;> try exact prn) | refine w_call progOk rfl rfl rfl rfl rfl rfl rfl (ftext_ok b s hs hb) rfl rfl ?_ | fail)
  exact w_fin1N [] rfl rfl rfl (Sub.refl _)
theorem write_ok (b : Batch) (hb : mayBatch b = true) : Ct Tryz.prog 213 [.agg (liftT (encBatch b))] [] (.tuple [.t (.slice .any 1 ((batchB b).map encByte)), .t .nilIface]) [] := by
  have hm := hb
  simp only [mayBatch, Bool.and_eq_true, decide_eq_true_eq] at hm
  obtain ⟨hbd, hall⟩ := hm
  have hbd' := hbd; unfold boundsB at hbd'
  have hlm : (b.recs.map encRec).length = b.recs.length := List.length_map ..
  have l1 := vint_len6 (n := b.pid.toNat) (by omega)
  have l2 := vint_len6 (n := b.epoch.toNat) (by omega)
  have l3 := vint_len6 (n := b.seq.toNat) (by omega)
  have l4 := vint_len6 (n := b.recs.length) (by omega)
  refine ct0 progOk Tryz.func213 rfl false rfl rfl ?_
  have cm : Ct Tryz.prog 37 [.agg (liftT (encBatch b))] [] (.t (.bool true)) [] := hb ▸ rmay_ok b (by omega)
  repeat' (first | refine w_stepZ progOk rfl rfl rfl rfl rfl ?_ | refine w_step progOk rfl rfl rfl ?_ | refine w_nil ?_ | refine w_seq ?_ | refine w_reg progOk rfl rfl ?_ | (refine w_condP rfl (ht := fun h => ?_) (hf := fun h => ?_) <;> try exact prn) | refine w_block ?_ | refine w_skip ?_ | refine w_call progOk rfl rfl rfl rfl rfl rfl rfl (cm) rfl rfl ?_ | refine w_callR progOk [(10, 1), (8, 3)] [(1, 10), (3, 8)] rfl rfl rfl rfl rfl (wnum_ok [] b.pid nil_bytes (by omega) (by omega) (by simp)) rfl rfl rfl rfl rfl ?_ | refine w_callR progOk [(10, 1), (8, 3)] [(1, 10), (3, 8)] rfl rfl rfl rfl rfl (wnum_ok _ _ (Sub.refl _) (by omega) (by omega) (by simp only [List.length_append, List.length_cons, List.length_nil, flagB]; omega)) rfl rfl rfl rfl rfl ?_ | refine w_call progOk rfl rfl rfl rfl rfl rfl rfl (fflag_ok _ _ (by simp; omega)) rfl rfl ?_ | fail)
  refine w_loop (ι := Nat) (fun i => i ≤ b.recs.length) (fun i => [(4, .ref 8 0), (5, .ref 10 0), (7, .func (.func 220) [] [.ref 10 0, .ref 8 0]), (40, .t (.slice .any 2 (b.recs.map encRec))), (41, .t (.int .i64 b.recs.length)), (42, .t (.int .i64 i))]) (fun i => [(10, .cells [.t (.int .i64 0)]), (8, .cells [.t (.slice .any 1 ((vint b.pid.toNat ++ vint b.epoch.toNat ++ vint b.seq.toNat ++ flagB b.txn ++ vint b.recs.length ++ (b.recs.take i).flatMap recB).map encByte))]), (2, .cells (liftT (encBatch b)))]) (fun i => b.recs.length - i) 0 (by simp) ?_ ?_
  · refine at_of [] (sub_eq rfl rfl (sub_eq rfl rfl (sub_eq rfl rfl (sub_eq rfl rfl (sub_eq rfl (by rw [hlm]) (sub_eq rfl rfl sub_nil)))))) ?_
    simp only [hlm, List.take_zero, List.flatMap_nil, List.append_nil]
    rfl
  rintro i hi
  by_cases hlt : i < b.recs.length
  · have hr : b.recs[i]? = some b.recs[i] := List.getElem?_eq_getElem hlt
    have hrok := okRec_iff.1 (List.all_eq_true.1 hall b.recs[i] (List.getElem_mem hlt))
    have hl5 := recs_len (l := b.recs.take i) (List.all_eq_true.2 fun x hx => List.all_eq_true.1 hall x (List.mem_of_mem_take hx))
    rw [List.length_take] at hl5
    generalize b.recs[i] = r at hr hrok
    have hl6 := textB_len (s := r.key) (by omega)
    repeat' (first | refine w_stepZ progOk rfl rfl rfl rfl rfl ?_ | refine w_step progOk rfl rfl rfl ?_ | refine w_nil ?_ | refine w_seq ?_ | refine w_reg progOk rfl rfl ?_ | (refine w_condP rfl (ht := fun h => ?_) (hf := fun h => ?_) <;> try exact prn) | refine w_block ?_ | refine w_skip ?_ | refine w_index progOk rfl rfl rfl rfl rfl rfl rfl (map_get (by assumption)) rfl ?_ | refine w_callR progOk [(10, 1), (8, 3)] [(1, 10), (3, 8)] rfl rfl rfl rfl rfl (wtext_ok _ r.key (by omega) (by simp only [List.length_append, List.length_cons, List.length_nil, flagB]; omega)) rfl rfl rfl rfl rfl ?_ | refine w_callR progOk [(10, 1), (8, 3)] [(1, 10), (3, 8)] rfl rfl rfl rfl rfl (wtext_ok _ r.value (by omega) (by simp only [List.length_append, List.length_cons, List.length_nil, flagB]; omega)) rfl rfl rfl rfl rfl ?_ | fail)
    refine w_next (i + 1) (by omega) (by omega) [9] (sub_eq rfl rfl (sub_eq rfl rfl (sub_eq rfl rfl (sub_eq rfl rfl (sub_eq rfl rfl (sub_eq rfl ?_ sub_nil)))))) ?_
    · rw [wrap64 (by omega) (by omega)]; rfl
    · rw [take_succ hr]; simp only [List.flatMap_append, List.flatMap_cons, List.flatMap_nil, List.append_nil, recB, ← List.append_assoc]; rfl
  · repeat' (first | refine w_step progOk rfl rfl rfl ?_ | refine w_nil ?_ | refine w_seq ?_ | refine w_reg progOk rfl rfl ?_ | (refine w_condP rfl (ht := fun h => ?_) (hf := fun h => ?_) <;> try exact prn) | refine w_skip ?_ | refine w_exit ?_ | refine w_ret ?_ | fail)
    refine w_fin rfl (Sub.of_eq ?_); rw [List.take_of_length_le (by omega)]; rfl
theorem rbytes_ok (b : Batch) (hb : mayBatch b = true) : Ct Tryz.prog 202 [.agg (liftT (encBatch b))] [] (.tuple [.t (.str (batchB b)), .t (.int .i64 0)]) [] := by
  refine ct0 progOk Tryz.func202 rfl false rfl rfl ?_
  repeat' (first | refine w_step progOk rfl rfl rfl ?_ | refine w_nil ?_ | refine w_seq ?_ | refine w_reg progOk rfl rfl ?_ | (refine w_condP rfl (ht := fun h => ?_) (hf := fun h => ?_) <;> try exact prn) | refine w_skip ?_ | refine w_ret ?_ | refine w_call progOk rfl rfl rfl rfl rfl rfl rfl (write_ok b hb) rfl rfl ?_ | refine w_convS progOk rfl rfl rfl rfl rfl rfl (bytesE_eq _).symm rfl ?_ | fail)
  exact w_fin rfl (Sub.refl _)
end Go.Proofs.YtpdmaenhenfofaaGreatDoor

namespace Go.Proofs.YtpdmaenhenfofaaGreatDoor
open Go.Am
attribute [local irreducible] Decidable.decide
set_option maxRecDepth 100000
set_option maxHeartbeats 1000000
def encI (n : Int) : List T := [.int .i64 n]
def wB (b : Bs) : St := [(1, .cells [.t (.slice .any 1 (b.map encByte)), .t (.int .i64 0)])]
theorem nums_take {l : List Int} {i : Nat} {n : Int} (h : l[i]? = some n) : nums (l.take (i + 1)) = nums (l.take i) ++ vint n.toNat := by
  rw [take_succ h]; simp [nums]
theorem nums_len : ∀ {l : List Int}, (∀ n ∈ l, 0 ≤ n ∧ n ≤ 1099511627776) → (nums l).length ≤ 6 * l.length
  | [], _ => by simp [nums]
  | a :: r, h => by
    have ih := nums_len (l := r) fun n hn => h n (by simp [hn])
    have h1 := h a (by simp)
    have h2 := vint_len6 (n := a.toNat) (by omega)
    simp only [nums, List.flatMap_cons, List.length_append, List.length_cons] at ih ⊢; omega
theorem enums_ok (b : Bs) (l : List Int) (hl : ∀ n ∈ l, 0 ≤ n ∧ n ≤ 1099511627776) (hll : l.length ≤ 1000) (hb : b.length ≤ 100000000) :
    Ct Tryz.prog 203 [.ref 1 0, .t (.slice .any 1 (l.map encI))] (wB b) (.tuple []) (wB (b ++ nums l)) := by
  refine ct1 progOk Tryz.func203 rfl rfl ?_
  have hlm : (l.map encI).length = l.length := List.length_map ..
  repeat' (first | refine w_step progOk rfl rfl rfl ?_ | refine w_nil ?_ | refine w_seq ?_ | refine w_reg progOk rfl rfl ?_ | refine w_block ?_ | fail)
  refine w_loop (ι := Nat) (fun i => i ≤ l.length) (fun i => [(0, .ref 1 0), (6, .t (.slice .any 1 (l.map encI))), (7, .t (.int .i64 l.length)), (8, .t (.int .i64 i))]) (fun i => wB (b ++ nums (l.take i))) (fun i => l.length - i) 0 (by simp) ?_ ?_
  · exact at_of [] (sub_eq rfl rfl (sub_eq rfl rfl (sub_eq rfl (by rw [hlm]) (sub_eq rfl rfl sub_nil)))) (by simp [nums, wB, dropS])
  rintro i hi
  by_cases hlt : i < l.length
  · have hr : l[i]? = some l[i] := List.getElem?_eq_getElem hlt
    have hn := hl l[i] (List.getElem_mem hlt)
    have hl5 := nums_len (l := l.take i) (fun n hn => hl n (List.mem_of_mem_take hn))
    rw [List.length_take] at hl5
    generalize l[i] = r at hr hn
    repeat' (first | refine w_stepZ progOk rfl rfl rfl rfl rfl ?_ | refine w_step progOk rfl rfl rfl ?_ | refine w_nil ?_ | refine w_seq ?_ | refine w_reg progOk rfl rfl ?_ | (refine w_condP rfl (ht := fun h => ?_) (hf := fun h => ?_) <;> try exact prn) | refine w_block ?_ | refine w_skip ?_ | refine w_index progOk rfl rfl rfl rfl rfl rfl rfl (map_get (by assumption)) rfl ?_ | refine w_call progOk rfl rfl rfl rfl rfl rfl rfl (fnumber_ok _ r hn.1 hn.2 (by rw [List.length_append]; omega)) rfl rfl ?_ | fail)
    refine w_next (i + 1) (by omega) (by omega) [] (sub_eq rfl rfl (sub_eq rfl rfl (sub_eq rfl rfl (sub_eq rfl ?_ sub_nil)))) ?_
    · rw [wrap64 (by omega) (by omega)]; rfl
    · rw [nums_take hr, ← List.append_assoc]; rfl
  · repeat' (first | refine w_step progOk rfl rfl rfl ?_ | refine w_nil ?_ | refine w_seq ?_ | refine w_reg progOk rfl rfl ?_ | (refine w_condP rfl (ht := fun h => ?_) (hf := fun h => ?_) <;> try exact prn) | refine w_exit ?_ | fail)
    refine w_fin1N [] rfl rfl ?_ (Sub.refl _)
    rw [List.take_of_length_le (by omega)]; rfl
theorem etext_ok (b s : Bs) (hs : s.length ≤ 1024) (hb : b.length ≤ 1000000000) :
    Ct Tryz.prog 205 [.ref 1 0, .t (.str s)] (wB b) (.tuple []) (wB (b ++ textB s)) := by
  refine ct1 progOk Tryz.func205 rfl rfl ?_
  repeat' (first | refine w_stepZ progOk rfl rfl rfl rfl rfl ?_ | refine w_step progOk rfl rfl rfl ?_ | refine w_nil ?_ | refine w_seq ?_ | refine w_reg progOk rfl rfl ?_ | (refine w_condP rfl (ht := fun h => ?_) (hf := fun h => ?_) <;> try exact prn) | refine w_call progOk rfl rfl rfl rfl rfl rfl rfl (ftext_ok b s hs hb) rfl rfl ?_ | fail)
  exact w_fin1N [] rfl rfl rfl (Sub.refl _)
end Go.Proofs.YtpdmaenhenfofaaGreatDoor

namespace Go.Proofs.YtpdmaenhenfofaaGreatDoor
open Go.Am
attribute [local irreducible] Decidable.decide
set_option maxRecDepth 100000
set_option maxHeartbeats 1000000
def wF (b : Bs) : St := [(1, .cells [.t (.slice .full 1 (b.map encByte)), .t (.int .i64 0)])]
theorem wF_weak {b : Bs} : SubS (wF b) (wB b) := by
  exact ⟨⟨rfl, sub_slice, Sub.refl _, trivial⟩, trivial⟩
theorem wdata_ok (b : Bs) (x : Entry) (hm : mayBatch x.b = true) (hb : b.length ≤ 1000000) : Ct Tryz.prog 167 [.ref 1 0, .agg (liftT (encEntry x))] (wF b) (.tuple []) (wB (b ++ batchB x.b)) := by
  refine ct1 progOk Tryz.func167 rfl rfl ?_
  have hl := batchB_len hm
  repeat' (first | refine w_stepZ progOk rfl rfl rfl rfl rfl ?_ | refine w_step progOk rfl rfl rfl ?_ | refine w_nil ?_ | refine w_seq ?_ | refine w_reg progOk rfl rfl ?_ | (refine w_condP rfl (ht := fun h => ?_) (hf := fun h => ?_) <;> try exact prn) | refine w_skip ?_ | refine w_call progOk rfl rfl rfl rfl rfl rfl rfl (rbytes_ok x.b hm) rfl rfl ?_ | refine w_appStrFull progOk rfl rfl rfl rfl rfl rfl rfl rfl rfl rfl rfl rfl (by simp [bytesE_len]; omega) ?_ | fail)
  refine w_fin1N [3] rfl rfl ?_ (Sub.refl _)
  rw [bytesE_eq, ← List.map_append]; rfl
theorem wmark_ok (b : Bs) (x : Entry) (h : 0 ≤ x.b.pid ∧ x.b.pid ≤ 1099511627776 ∧ 0 ≤ x.b.epoch ∧ x.b.epoch ≤ 1099511627776) (hb : b.length ≤ 1000000) : Ct Tryz.prog 168 [.ref 1 0, .agg (liftT (encEntry x))] (wB b) (.tuple []) (wB (b ++ nums [x.b.pid, x.b.epoch] ++ flagB x.yes)) := by
  refine ct1 progOk Tryz.func168 rfl rfl ?_
  have hl := nums_len (l := [x.b.pid, x.b.epoch]) (by simp; omega)
  simp only [List.length_cons, List.length_nil] at hl
  have c1 := enums_ok b [x.b.pid, x.b.epoch] (by simp; omega) (by simp) (by omega)
  repeat' (first | refine w_stepZ progOk rfl rfl rfl rfl rfl ?_ | refine w_step progOk rfl rfl rfl ?_ | refine w_nil ?_ | refine w_seq ?_ | refine w_reg progOk rfl rfl ?_ | refine w_regD (id := 2) (m := 8) progOk (by kernel_rfl) rfl rfl rfl rfl ?_ | refine s_step rfl rfl rfl rfl ?_ | refine w_callR progOk [(1, 1)] [(1, 1)] rfl rfl rfl rfl rfl (c1.args ⟨Sub.refl _, sub_slice, trivial⟩) rfl rfl rfl rfl rfl ?_ | refine s_call rfl rfl rfl rfl rfl (fflag_ok (b ++ nums [x.b.pid, x.b.epoch]) x.yes (by rw [List.length_append]; omega)) rfl rfl ?_ | fail)
  exact w_fin1N [3] rfl rfl rfl (Sub.refl _)
theorem wcut_ok (b : Bs) (x : Entry) (h : 0 ≤ x.offset ∧ x.offset ≤ 1099511627776) (hb : b.length ≤ 1000000) : Ct Tryz.prog 169 [.ref 1 0, .agg (liftT (encEntry x))] (wB b) (.tuple []) (wB (b ++ nums [x.offset])) := by
  refine ct1 progOk Tryz.func169 rfl rfl ?_
  have c1 := enums_ok b [x.offset] (by simp; omega) (by simp) (by omega)
  repeat' (first | refine w_stepZ progOk rfl rfl rfl rfl rfl ?_ | refine w_step progOk rfl rfl rfl ?_ | refine w_nil ?_ | refine w_seq ?_ | refine w_reg progOk rfl rfl ?_ | refine w_callR progOk [(1, 1)] [(1, 1)] rfl rfl rfl rfl rfl (c1.args ⟨Sub.refl _, sub_slice, trivial⟩) rfl rfl rfl rfl rfl ?_ | fail)
  exact w_fin1N [3] rfl rfl rfl (Sub.refl _)
theorem wdrop_ok (b : Bs) (x : Entry) (h : 0 ≤ x.b.pid ∧ x.b.pid ≤ 1099511627776 ∧ 0 ≤ x.b.epoch ∧ x.b.epoch ≤ 1099511627776 ∧ 0 ≤ x.next ∧ x.next ≤ 1099511627776) (hb : b.length ≤ 1000000) : Ct Tryz.prog 171 [.ref 1 0, .agg (liftT (encEntry x))] (wB b) (.tuple []) (wB (b ++ nums [x.b.pid, x.b.epoch, x.next])) := by
  refine ct1 progOk Tryz.func171 rfl rfl ?_
  have c1 := enums_ok b [x.b.pid, x.b.epoch, x.next] (by simp; omega) (by simp) (by omega)
  repeat' (first | refine w_stepZ progOk rfl rfl rfl rfl rfl ?_ | refine w_step progOk rfl rfl rfl ?_ | refine w_nil ?_ | refine w_seq ?_ | refine w_reg progOk rfl rfl ?_ | refine w_callR progOk [(1, 1)] [(1, 1)] rfl rfl rfl rfl rfl (c1.args ⟨Sub.refl _, sub_slice, trivial⟩) rfl rfl rfl rfl rfl ?_ | fail)
  exact w_fin1N [3] rfl rfl rfl (Sub.refl _)
theorem wrow_ok (b : Bs) (x : Entry) (h : 0 ≤ x.row.pid ∧ x.row.pid ≤ 1099511627776 ∧ 0 ≤ x.row.seq ∧ x.row.seq ≤ 1099511627776) (hk : x.row.key.length ≤ 16) (hv : x.row.value.length ≤ 16) (hb : b.length ≤ 1000000) :
    Ct Tryz.prog 172 [.ref 1 0, .agg (liftT (encEntry x))] (wB b) (.tuple []) (wB (b ++ nums [x.row.pid, x.row.seq] ++ textB x.row.key ++ textB x.row.value)) := by
  refine ct1 progOk Tryz.func172 rfl rfl ?_
  have hl := nums_len (l := [x.row.pid, x.row.seq]) (by simp; omega)
  simp only [List.length_cons, List.length_nil] at hl
  have hl2 := textB_len (s := x.row.key) (by omega)
  have c1 := enums_ok b [x.row.pid, x.row.seq] (by simp; omega) (by simp) (by omega)
  repeat' (first | refine w_stepZ progOk rfl rfl rfl rfl rfl ?_ | refine w_step progOk rfl rfl rfl ?_ | refine w_nil ?_ | refine w_seq ?_ | refine w_reg progOk rfl rfl ?_ | refine w_callR progOk [(1, 1)] [(1, 1)] rfl rfl rfl rfl rfl (c1.args ⟨Sub.refl _, sub_slice, trivial⟩) rfl rfl rfl rfl rfl ?_ | refine w_callR progOk [(1, 1)] [(1, 1)] rfl rfl rfl rfl rfl (etext_ok (b ++ nums [x.row.pid, x.row.seq]) x.row.key (by omega) (by rw [List.length_append]; omega)) rfl rfl rfl rfl rfl ?_ | refine w_callR progOk [(1, 1)] [(1, 1)] rfl rfl rfl rfl rfl (etext_ok (b ++ nums [x.row.pid, x.row.seq] ++ textB x.row.key) x.row.value (by omega) (by rw [List.length_append, List.length_append]; omega)) rfl rfl rfl rfl rfl ?_ | fail)
  exact w_fin1N [3] rfl rfl rfl (Sub.refl _)
theorem wcopy_ok (b : Bs) (x : Entry) (hm : mayBatch x.b = true) (h : 0 ≤ x.next ∧ x.next ≤ 1099511627776) (hb : b.length ≤ 1000000) : Ct Tryz.prog 170 [.ref 1 0, .agg (liftT (encEntry x))] (wF b) (.tuple []) (wB (b ++ batchB x.b ++ flagB x.yes ++ (if x.yes then nums [x.next] else []))) := by
  refine ct1 progOk Tryz.func170 rfl rfl ?_
  have hl := batchB_len hm
  have c1 := enums_ok (b ++ batchB x.b ++ flagB x.yes) [x.next] (by simp; omega) (by simp) (by simp only [List.length_append, flagB, List.length_cons, List.length_nil]; omega)
  repeat' (first | refine w_stepZ progOk rfl rfl rfl rfl rfl ?_ | refine w_step progOk rfl rfl rfl ?_ | refine w_nil ?_ | refine w_seq ?_ | refine w_reg progOk rfl rfl ?_ | (refine w_condP rfl (ht := fun h => ?_) (hf := fun h => ?_) <;> try exact prn) | refine w_skip ?_ | refine w_regD (id := 2) (m := 8) progOk (by kernel_rfl) rfl rfl rfl rfl ?_ | refine s_step rfl rfl rfl rfl ?_ | refine w_callR progOk [(1, 1)] [(1, 1)] rfl rfl rfl rfl rfl (wdata_ok b x hm hb) rfl rfl rfl rfl rfl ?_ | refine w_callR progOk [(1, 1)] [(1, 1)] rfl rfl rfl rfl rfl (c1.args ⟨Sub.refl _, sub_slice, trivial⟩) rfl rfl rfl rfl rfl ?_ | refine s_call rfl rfl rfl rfl rfl (fflag_ok (b ++ batchB x.b) x.yes (by rw [List.length_append]; omega)) rfl rfl ?_ | fail)
  · rw [if_pos (by assumption)]; exact w_fin1N [3] rfl rfl rfl (Sub.refl _)
  · rw [if_neg (by assumption), List.append_nil]; exact w_fin1N [3] rfl rfl rfl (Sub.refl _)
theorem wstate_ok (b : Bs) (x : Entry) (hk : knownP x.prod = true) (hb : b.length ≤ 1000000) : Ct Tryz.prog 173 [.ref 1 0, .agg (liftT (encEntry x))] (wB b) (.tuple []) (wB (b ++ nums [x.prod.pid, x.prod.epoch, x.prod.next, x.prod.seen.length] ++ x.prod.seen.flatMap seenB)) := by
  refine ct1 progOk Tryz.func173 rfl rfl ?_
  simp only [knownP, Bool.and_eq_true, decide_eq_true_eq] at hk
  obtain ⟨hbd, hch⟩ := hk
  unfold boundsP at hbd
  have hsn := chain_seen (by omega) (by omega) hch
  have hlm : (x.prod.seen.map encSeen).length = x.prod.seen.length := List.length_map ..
  have c1 := enums_ok b [x.prod.pid, x.prod.epoch, x.prod.next, x.prod.seen.length] (by simp; omega) (by simp) (by omega)
  rw [← hlm] at c1
  repeat' (first | refine w_stepZ progOk rfl rfl rfl rfl rfl ?_ | refine w_step progOk rfl rfl rfl ?_ | refine w_nil ?_ | refine w_seq ?_ | refine w_reg progOk rfl rfl ?_ | refine w_block ?_ | refine w_callR progOk [(1, 1)] [(1, 1)] rfl rfl rfl rfl rfl (c1.args ⟨Sub.refl _, sub_slice, trivial⟩) rfl rfl rfl rfl rfl ?_ | fail)
  refine w_loop (ι := Nat) (fun i => i ≤ x.prod.seen.length) (fun i => [(0, .ref 1 0), (24, .t (.slice .any 3 (x.prod.seen.map encSeen))), (25, .t (.int .i64 x.prod.seen.length)), (26, .t (.int .i64 i))]) (fun i => wB (b ++ nums [x.prod.pid, x.prod.epoch, x.prod.next, x.prod.seen.length] ++ (x.prod.seen.take i).flatMap seenB)) (fun i => x.prod.seen.length - i) 0 (by simp) ?_ ?_
  · refine at_of [3] (sub_eq rfl rfl (sub_eq rfl rfl (sub_eq rfl (by rw [hlm]; rfl) (sub_eq rfl rfl sub_nil)))) ?_
    simp only [hlm, List.take_zero, List.flatMap_nil, List.append_nil]; rfl
  rintro i hi
  by_cases hlt : i < x.prod.seen.length
  · have hr : x.prod.seen[i]? = some x.prod.seen[i] := List.getElem?_eq_getElem hlt
    have hn := hsn x.prod.seen[i] (List.getElem_mem hlt)
    have hl5 := seens_len (l := x.prod.seen.take i) (fun s hs => hsn s (List.mem_of_mem_take hs))
    rw [List.length_take] at hl5
    have hl := nums_len (l := [x.prod.pid, x.prod.epoch, x.prod.next, (x.prod.seen.length : Int)]) (by simp; omega)
    simp only [List.length_cons, List.length_nil] at hl
    generalize x.prod.seen[i] = r at hr hn
    have ho := hn.1; unfold okSeen at ho
    have hw : IntKind.i64.wrap (r.base + 1) = r.base + 1 := wrap64 (by omega) (by omega)
    have c2 := enums_ok (b ++ nums [x.prod.pid, x.prod.epoch, x.prod.next, x.prod.seen.length] ++ (x.prod.seen.take i).flatMap seenB) [r.seq, r.count, r.base + 1] (by simp; omega) (by simp) (by simp only [List.length_append]; omega)
    rw [← hw] at c2
    repeat' (first | refine w_stepZ progOk rfl rfl rfl rfl rfl ?_ | refine w_step progOk rfl rfl rfl ?_ | refine w_nil ?_ | refine w_seq ?_ | refine w_reg progOk rfl rfl ?_ | (refine w_condP rfl (ht := fun h => ?_) (hf := fun h => ?_) <;> try exact prn) | refine w_block ?_ | refine w_skip ?_ | refine w_index progOk rfl rfl rfl rfl rfl rfl rfl (map_get (by assumption)) rfl ?_ | refine w_callR progOk [(1, 1)] [(1, 1)] rfl rfl rfl rfl rfl (c2.args ⟨Sub.refl _, sub_slice, trivial⟩) rfl rfl rfl rfl rfl ?_ | fail)
    refine w_next (i + 1) (by omega) (by omega) [5] (sub_eq rfl rfl (sub_eq rfl rfl (sub_eq rfl rfl (sub_eq rfl ?_ sub_nil)))) ?_
    · rw [wrap64 (by omega) (by omega)]; rfl
    · rw [take_succ hr, hw]; simp only [List.flatMap_append, List.flatMap_cons, List.flatMap_nil, List.append_nil, seenB, ← List.append_assoc]; rfl
  · repeat' (first | refine w_step progOk rfl rfl rfl ?_ | refine w_nil ?_ | refine w_seq ?_ | refine w_reg progOk rfl rfl ?_ | (refine w_condP rfl (ht := fun h => ?_) (hf := fun h => ?_) <;> try exact prn) | refine w_exit ?_ | fail)
    refine w_fin1N [] rfl rfl ?_ (Sub.refl _)
    rw [List.take_of_length_le (by omega)]; rfl
end Go.Proofs.YtpdmaenhenfofaaGreatDoor

namespace Go.Proofs.YtpdmaenhenfofaaGreatDoor
open Go.Am
attribute [local irreducible] Decidable.decide
set_option maxRecDepth 100000
set_option maxHeartbeats 1000000
theorem writing0 : Ct Tryz.prog 110 [.t (.int .i8 0)] [] (.t (.func (.func 167) [] [])) [] := by
  refine ct0 progOk Tryz.func110 rfl false rfl rfl ?_
  repeat' (first | refine w_stepZ progOk rfl rfl rfl rfl rfl ?_ | refine w_step progOk rfl rfl rfl ?_ | refine w_nil ?_ | refine w_seq ?_ | refine w_reg progOk rfl rfl ?_ | refine w_ret ?_ | refine w_buildA progOk rfl rfl rfl rfl rfl rfl rfl rfl ?_ | fail)
  exact w_fin rfl (Sub.of_eq rfl)
theorem ebytes0 (x : Entry) (hk : x.kind = 0) (hm : mayE x = true) (ha : x.b.recs.length ≤ 1000000) (hp : x.prod.seen.length ≤ 1000000) : Ct Tryz.prog 59 [.agg (liftT (encEntry x))] [] (.tuple [.t (.str (entryB x)), .t (.int .i64 0)]) [] := by
  have hma := (mayE_alt hm).2
  simp only [hk, if_true, if_false, Int.reduceEq, true_and] at hma
  skip
  have eB : entryB x = [0] ++ (batchB x.b) := by simp [entryB, hk, nums]
  rw [eB]
  have cm : Ct Tryz.prog 109 [.agg (liftT (encEntry x))] [] (.t (.bool true)) [] := hm ▸ emay_ok known_ok x ha hp
  have cw : Ct Tryz.prog 110 [.t (.int .i8 x.kind)] [] (.t (.func (.func 167) [] [])) [] := by rw [hk]; exact writing0
  have e1 : T.int .u8 ((UInt8.toNat 0 : Nat) : Int) = T.int .u8 (IntKind.u8.wrap x.kind) := by rw [hk]; rfl
  have cd := wdata_ok [0] x hma (by simp)
  skip
  simp only [wF, List.map, encByte, e1] at cd
  refine ct0 progOk Tryz.func59 rfl false rfl rfl ?_
  repeat' (first | refine w_stepZ progOk rfl rfl rfl rfl rfl ?_ | refine w_step progOk rfl rfl rfl ?_ | refine w_nil ?_ | refine w_seq ?_ | refine w_reg progOk rfl rfl ?_ | (refine w_condP rfl (ht := fun h => ?_) (hf := fun h => ?_) <;> try exact prn) | refine w_skip ?_ | refine w_ret ?_ | refine w_regD (id := 4) (m := 5) progOk (by kernel_rfl) rfl rfl rfl rfl ?_ | refine s_step rfl rfl rfl rfl ?_ | refine s_nil ?_ | refine w_call progOk rfl rfl rfl rfl rfl rfl rfl (cm) rfl rfl ?_ | refine s_call rfl rfl rfl rfl rfl (cw) rfl rfl ?_ | refine w_callR progOk [(26, 1)] [(1, 26)] rfl rfl rfl rfl rfl cd rfl rfl rfl rfl rfl ?_ | refine w_convS progOk rfl rfl rfl rfl rfl rfl (bytesE_eq _).symm rfl ?_ | fail)
  exact w_fin rfl (Sub.of_eq (by simp only [List.append_assoc]))
theorem writing1 : Ct Tryz.prog 110 [.t (.int .i8 1)] [] (.t (.func (.func 168) [] [])) [] := by
  refine ct0 progOk Tryz.func110 rfl false rfl rfl ?_
  repeat' (first | refine w_stepZ progOk rfl rfl rfl rfl rfl ?_ | refine w_step progOk rfl rfl rfl ?_ | refine w_nil ?_ | refine w_seq ?_ | refine w_reg progOk rfl rfl ?_ | refine w_ret ?_ | refine w_buildA progOk rfl rfl rfl rfl rfl rfl rfl rfl ?_ | fail)
  exact w_fin rfl (Sub.of_eq rfl)
theorem ebytes1 (x : Entry) (hk : x.kind = 1) (hm : mayE x = true) (ha : x.b.recs.length ≤ 1000000) (hp : x.prod.seen.length ≤ 1000000) : Ct Tryz.prog 59 [.agg (liftT (encEntry x))] [] (.tuple [.t (.str (entryB x)), .t (.int .i64 0)]) [] := by
  have hma := (mayE_alt hm).2
  simp only [hk, if_true, if_false, Int.reduceEq, true_and] at hma
  skip
  have eB : entryB x = [1] ++ (nums [x.b.pid, x.b.epoch] ++ flagB x.yes) := by simp [entryB, hk, nums]
  rw [eB]
  have cm : Ct Tryz.prog 109 [.agg (liftT (encEntry x))] [] (.t (.bool true)) [] := hm ▸ emay_ok known_ok x ha hp
  have cw : Ct Tryz.prog 110 [.t (.int .i8 x.kind)] [] (.t (.func (.func 168) [] [])) [] := by rw [hk]; exact writing1
  have e1 : T.int .u8 ((UInt8.toNat 1 : Nat) : Int) = T.int .u8 (IntKind.u8.wrap x.kind) := by rw [hk]; rfl
  have cd := wmark_ok [1] x (by omega) (by simp)
  replace cd := cd.weak (SubL.refl _) wF_weak
  simp only [wF, List.map, encByte, e1] at cd
  refine ct0 progOk Tryz.func59 rfl false rfl rfl ?_
  repeat' (first | refine w_stepZ progOk rfl rfl rfl rfl rfl ?_ | refine w_step progOk rfl rfl rfl ?_ | refine w_nil ?_ | refine w_seq ?_ | refine w_reg progOk rfl rfl ?_ | (refine w_condP rfl (ht := fun h => ?_) (hf := fun h => ?_) <;> try exact prn) | refine w_skip ?_ | refine w_ret ?_ | refine w_regD (id := 4) (m := 5) progOk (by kernel_rfl) rfl rfl rfl rfl ?_ | refine s_step rfl rfl rfl rfl ?_ | refine s_nil ?_ | refine w_call progOk rfl rfl rfl rfl rfl rfl rfl (cm) rfl rfl ?_ | refine s_call rfl rfl rfl rfl rfl (cw) rfl rfl ?_ | refine w_callR progOk [(26, 1)] [(1, 26)] rfl rfl rfl rfl rfl cd rfl rfl rfl rfl rfl ?_ | refine w_convS progOk rfl rfl rfl rfl rfl rfl (bytesE_eq _).symm rfl ?_ | fail)
  exact w_fin rfl (Sub.of_eq (by simp only [List.append_assoc]))
theorem writing2 : Ct Tryz.prog 110 [.t (.int .i8 2)] [] (.t (.func (.func 169) [] [])) [] := by
  refine ct0 progOk Tryz.func110 rfl false rfl rfl ?_
  repeat' (first | refine w_stepZ progOk rfl rfl rfl rfl rfl ?_ | refine w_step progOk rfl rfl rfl ?_ | refine w_nil ?_ | refine w_seq ?_ | refine w_reg progOk rfl rfl ?_ | refine w_ret ?_ | refine w_buildA progOk rfl rfl rfl rfl rfl rfl rfl rfl ?_ | fail)
  exact w_fin rfl (Sub.of_eq rfl)
theorem ebytes2 (x : Entry) (hk : x.kind = 2) (hm : mayE x = true) (ha : x.b.recs.length ≤ 1000000) (hp : x.prod.seen.length ≤ 1000000) : Ct Tryz.prog 59 [.agg (liftT (encEntry x))] [] (.tuple [.t (.str (entryB x)), .t (.int .i64 0)]) [] := by
  have hma := (mayE_alt hm).2
  simp only [hk, if_true, if_false, Int.reduceEq, true_and] at hma
  skip
  have eB : entryB x = [2] ++ (nums [x.offset]) := by simp [entryB, hk, nums]
  rw [eB]
  have cm : Ct Tryz.prog 109 [.agg (liftT (encEntry x))] [] (.t (.bool true)) [] := hm ▸ emay_ok known_ok x ha hp
  have cw : Ct Tryz.prog 110 [.t (.int .i8 x.kind)] [] (.t (.func (.func 169) [] [])) [] := by rw [hk]; exact writing2
  have e1 : T.int .u8 ((UInt8.toNat 2 : Nat) : Int) = T.int .u8 (IntKind.u8.wrap x.kind) := by rw [hk]; rfl
  have cd := wcut_ok [2] x (by omega) (by simp)
  replace cd := cd.weak (SubL.refl _) wF_weak
  simp only [wF, List.map, encByte, e1] at cd
  refine ct0 progOk Tryz.func59 rfl false rfl rfl ?_
  repeat' (first | refine w_stepZ progOk rfl rfl rfl rfl rfl ?_ | refine w_step progOk rfl rfl rfl ?_ | refine w_nil ?_ | refine w_seq ?_ | refine w_reg progOk rfl rfl ?_ | (refine w_condP rfl (ht := fun h => ?_) (hf := fun h => ?_) <;> try exact prn) | refine w_skip ?_ | refine w_ret ?_ | refine w_regD (id := 4) (m := 5) progOk (by kernel_rfl) rfl rfl rfl rfl ?_ | refine s_step rfl rfl rfl rfl ?_ | refine s_nil ?_ | refine w_call progOk rfl rfl rfl rfl rfl rfl rfl (cm) rfl rfl ?_ | refine s_call rfl rfl rfl rfl rfl (cw) rfl rfl ?_ | refine w_callR progOk [(26, 1)] [(1, 26)] rfl rfl rfl rfl rfl cd rfl rfl rfl rfl rfl ?_ | refine w_convS progOk rfl rfl rfl rfl rfl rfl (bytesE_eq _).symm rfl ?_ | fail)
  exact w_fin rfl (Sub.of_eq (by simp only [List.append_assoc]))
theorem writing3 : Ct Tryz.prog 110 [.t (.int .i8 3)] [] (.t (.func (.func 170) [] [])) [] := by
  refine ct0 progOk Tryz.func110 rfl false rfl rfl ?_
  repeat' (first | refine w_stepZ progOk rfl rfl rfl rfl rfl ?_ | refine w_step progOk rfl rfl rfl ?_ | refine w_nil ?_ | refine w_seq ?_ | refine w_reg progOk rfl rfl ?_ | refine w_ret ?_ | refine w_buildA progOk rfl rfl rfl rfl rfl rfl rfl rfl ?_ | fail)
  exact w_fin rfl (Sub.of_eq rfl)
theorem ebytes3 (x : Entry) (hk : x.kind = 3) (hm : mayE x = true) (ha : x.b.recs.length ≤ 1000000) (hp : x.prod.seen.length ≤ 1000000) : Ct Tryz.prog 59 [.agg (liftT (encEntry x))] [] (.tuple [.t (.str (entryB x)), .t (.int .i64 0)]) [] := by
  have hma := (mayE_alt hm).2
  simp only [hk, if_true, if_false, Int.reduceEq, true_and] at hma
  skip
  have eB : entryB x = [3] ++ (batchB x.b ++ flagB x.yes ++ (if x.yes then nums [x.next] else [])) := by simp [entryB, hk, nums]
  rw [eB]
  have cm : Ct Tryz.prog 109 [.agg (liftT (encEntry x))] [] (.t (.bool true)) [] := hm ▸ emay_ok known_ok x ha hp
  have cw : Ct Tryz.prog 110 [.t (.int .i8 x.kind)] [] (.t (.func (.func 170) [] [])) [] := by rw [hk]; exact writing3
  have e1 : T.int .u8 ((UInt8.toNat 3 : Nat) : Int) = T.int .u8 (IntKind.u8.wrap x.kind) := by rw [hk]; rfl
  have cd := wcopy_ok [3] x hma.1 (by omega) (by simp)
  skip
  simp only [wF, List.map, encByte, e1] at cd
  refine ct0 progOk Tryz.func59 rfl false rfl rfl ?_
  repeat' (first | refine w_stepZ progOk rfl rfl rfl rfl rfl ?_ | refine w_step progOk rfl rfl rfl ?_ | refine w_nil ?_ | refine w_seq ?_ | refine w_reg progOk rfl rfl ?_ | (refine w_condP rfl (ht := fun h => ?_) (hf := fun h => ?_) <;> try exact prn) | refine w_skip ?_ | refine w_ret ?_ | refine w_regD (id := 4) (m := 5) progOk (by kernel_rfl) rfl rfl rfl rfl ?_ | refine s_step rfl rfl rfl rfl ?_ | refine s_nil ?_ | refine w_call progOk rfl rfl rfl rfl rfl rfl rfl (cm) rfl rfl ?_ | refine s_call rfl rfl rfl rfl rfl (cw) rfl rfl ?_ | refine w_callR progOk [(26, 1)] [(1, 26)] rfl rfl rfl rfl rfl cd rfl rfl rfl rfl rfl ?_ | refine w_convS progOk rfl rfl rfl rfl rfl rfl (bytesE_eq _).symm rfl ?_ | fail)
  exact w_fin rfl (Sub.of_eq (by simp only [List.append_assoc]))
theorem writing4 : Ct Tryz.prog 110 [.t (.int .i8 4)] [] (.t (.func (.func 171) [] [])) [] := by
  refine ct0 progOk Tryz.func110 rfl false rfl rfl ?_
  repeat' (first | refine w_stepZ progOk rfl rfl rfl rfl rfl ?_ | refine w_step progOk rfl rfl rfl ?_ | refine w_nil ?_ | refine w_seq ?_ | refine w_reg progOk rfl rfl ?_ | refine w_ret ?_ | refine w_buildA progOk rfl rfl rfl rfl rfl rfl rfl rfl ?_ | fail)
  exact w_fin rfl (Sub.of_eq rfl)
theorem ebytes4 (x : Entry) (hk : x.kind = 4) (hm : mayE x = true) (ha : x.b.recs.length ≤ 1000000) (hp : x.prod.seen.length ≤ 1000000) : Ct Tryz.prog 59 [.agg (liftT (encEntry x))] [] (.tuple [.t (.str (entryB x)), .t (.int .i64 0)]) [] := by
  have hma := (mayE_alt hm).2
  simp only [hk, if_true, if_false, Int.reduceEq, true_and] at hma
  skip
  have eB : entryB x = [4] ++ (nums [x.b.pid, x.b.epoch, x.next]) := by simp [entryB, hk, nums]
  rw [eB]
  have cm : Ct Tryz.prog 109 [.agg (liftT (encEntry x))] [] (.t (.bool true)) [] := hm ▸ emay_ok known_ok x ha hp
  have cw : Ct Tryz.prog 110 [.t (.int .i8 x.kind)] [] (.t (.func (.func 171) [] [])) [] := by rw [hk]; exact writing4
  have e1 : T.int .u8 ((UInt8.toNat 4 : Nat) : Int) = T.int .u8 (IntKind.u8.wrap x.kind) := by rw [hk]; rfl
  have cd := wdrop_ok [4] x (by omega) (by simp)
  replace cd := cd.weak (SubL.refl _) wF_weak
  simp only [wF, List.map, encByte, e1] at cd
  refine ct0 progOk Tryz.func59 rfl false rfl rfl ?_
  repeat' (first | refine w_stepZ progOk rfl rfl rfl rfl rfl ?_ | refine w_step progOk rfl rfl rfl ?_ | refine w_nil ?_ | refine w_seq ?_ | refine w_reg progOk rfl rfl ?_ | (refine w_condP rfl (ht := fun h => ?_) (hf := fun h => ?_) <;> try exact prn) | refine w_skip ?_ | refine w_ret ?_ | refine w_regD (id := 4) (m := 5) progOk (by kernel_rfl) rfl rfl rfl rfl ?_ | refine s_step rfl rfl rfl rfl ?_ | refine s_nil ?_ | refine w_call progOk rfl rfl rfl rfl rfl rfl rfl (cm) rfl rfl ?_ | refine s_call rfl rfl rfl rfl rfl (cw) rfl rfl ?_ | refine w_callR progOk [(26, 1)] [(1, 26)] rfl rfl rfl rfl rfl cd rfl rfl rfl rfl rfl ?_ | refine w_convS progOk rfl rfl rfl rfl rfl rfl (bytesE_eq _).symm rfl ?_ | fail)
  exact w_fin rfl (Sub.of_eq (by simp only [List.append_assoc]))
theorem writing5 : Ct Tryz.prog 110 [.t (.int .i8 5)] [] (.t (.func (.func 172) [] [])) [] := by
  refine ct0 progOk Tryz.func110 rfl false rfl rfl ?_
  repeat' (first | refine w_stepZ progOk rfl rfl rfl rfl rfl ?_ | refine w_step progOk rfl rfl rfl ?_ | refine w_nil ?_ | refine w_seq ?_ | refine w_reg progOk rfl rfl ?_ | refine w_ret ?_ | refine w_buildA progOk rfl rfl rfl rfl rfl rfl rfl rfl ?_ | fail)
  exact w_fin rfl (Sub.of_eq rfl)
theorem ebytes5 (x : Entry) (hk : x.kind = 5) (hm : mayE x = true) (ha : x.b.recs.length ≤ 1000000) (hp : x.prod.seen.length ≤ 1000000) : Ct Tryz.prog 59 [.agg (liftT (encEntry x))] [] (.tuple [.t (.str (entryB x)), .t (.int .i64 0)]) [] := by
  have hma := (mayE_alt hm).2
  simp only [hk, if_true, if_false, Int.reduceEq, true_and] at hma
  simp only [mayRow, decide_eq_true_eq] at hma
  have eB : entryB x = [5] ++ (nums [x.row.pid, x.row.seq] ++ textB x.row.key ++ textB x.row.value) := by simp [entryB, hk, nums]
  rw [eB]
  have cm : Ct Tryz.prog 109 [.agg (liftT (encEntry x))] [] (.t (.bool true)) [] := hm ▸ emay_ok known_ok x ha hp
  have cw : Ct Tryz.prog 110 [.t (.int .i8 x.kind)] [] (.t (.func (.func 172) [] [])) [] := by rw [hk]; exact writing5
  have e1 : T.int .u8 ((UInt8.toNat 5 : Nat) : Int) = T.int .u8 (IntKind.u8.wrap x.kind) := by rw [hk]; rfl
  have cd := wrow_ok [5] x (by omega) (by omega) (by omega) (by simp)
  replace cd := cd.weak (SubL.refl _) wF_weak
  simp only [wF, List.map, encByte, e1] at cd
  refine ct0 progOk Tryz.func59 rfl false rfl rfl ?_
  repeat' (first | refine w_stepZ progOk rfl rfl rfl rfl rfl ?_ | refine w_step progOk rfl rfl rfl ?_ | refine w_nil ?_ | refine w_seq ?_ | refine w_reg progOk rfl rfl ?_ | (refine w_condP rfl (ht := fun h => ?_) (hf := fun h => ?_) <;> try exact prn) | refine w_skip ?_ | refine w_ret ?_ | refine w_regD (id := 4) (m := 5) progOk (by kernel_rfl) rfl rfl rfl rfl ?_ | refine s_step rfl rfl rfl rfl ?_ | refine s_nil ?_ | refine w_call progOk rfl rfl rfl rfl rfl rfl rfl (cm) rfl rfl ?_ | refine s_call rfl rfl rfl rfl rfl (cw) rfl rfl ?_ | refine w_callR progOk [(26, 1)] [(1, 26)] rfl rfl rfl rfl rfl cd rfl rfl rfl rfl rfl ?_ | refine w_convS progOk rfl rfl rfl rfl rfl rfl (bytesE_eq _).symm rfl ?_ | fail)
  exact w_fin rfl (Sub.of_eq (by simp only [List.append_assoc]))
theorem writing6 : Ct Tryz.prog 110 [.t (.int .i8 6)] [] (.t (.func (.func 173) [] [])) [] := by
  refine ct0 progOk Tryz.func110 rfl false rfl rfl ?_
  repeat' (first | refine w_stepZ progOk rfl rfl rfl rfl rfl ?_ | refine w_step progOk rfl rfl rfl ?_ | refine w_nil ?_ | refine w_seq ?_ | refine w_reg progOk rfl rfl ?_ | refine w_ret ?_ | refine w_buildA progOk rfl rfl rfl rfl rfl rfl rfl rfl ?_ | fail)
  exact w_fin rfl (Sub.of_eq rfl)
theorem ebytes6 (x : Entry) (hk : x.kind = 6) (hm : mayE x = true) (ha : x.b.recs.length ≤ 1000000) (hp : x.prod.seen.length ≤ 1000000) : Ct Tryz.prog 59 [.agg (liftT (encEntry x))] [] (.tuple [.t (.str (entryB x)), .t (.int .i64 0)]) [] := by
  have hma := (mayE_alt hm).2
  simp only [hk, if_true, if_false, Int.reduceEq, true_and] at hma
  skip
  have eB : entryB x = [6] ++ (nums [x.prod.pid, x.prod.epoch, x.prod.next, x.prod.seen.length] ++ x.prod.seen.flatMap seenB) := by simp [entryB, hk, nums]
  rw [eB]
  have cm : Ct Tryz.prog 109 [.agg (liftT (encEntry x))] [] (.t (.bool true)) [] := hm ▸ emay_ok known_ok x ha hp
  have cw : Ct Tryz.prog 110 [.t (.int .i8 x.kind)] [] (.t (.func (.func 173) [] [])) [] := by rw [hk]; exact writing6
  have e1 : T.int .u8 ((UInt8.toNat 6 : Nat) : Int) = T.int .u8 (IntKind.u8.wrap x.kind) := by rw [hk]; rfl
  have cd := wstate_ok [6] x hma (by simp)
  replace cd := cd.weak (SubL.refl _) wF_weak
  simp only [wF, List.map, encByte, e1] at cd
  refine ct0 progOk Tryz.func59 rfl false rfl rfl ?_
  repeat' (first | refine w_stepZ progOk rfl rfl rfl rfl rfl ?_ | refine w_step progOk rfl rfl rfl ?_ | refine w_nil ?_ | refine w_seq ?_ | refine w_reg progOk rfl rfl ?_ | (refine w_condP rfl (ht := fun h => ?_) (hf := fun h => ?_) <;> try exact prn) | refine w_skip ?_ | refine w_ret ?_ | refine w_regD (id := 4) (m := 5) progOk (by kernel_rfl) rfl rfl rfl rfl ?_ | refine s_step rfl rfl rfl rfl ?_ | refine s_nil ?_ | refine w_call progOk rfl rfl rfl rfl rfl rfl rfl (cm) rfl rfl ?_ | refine s_call rfl rfl rfl rfl rfl (cw) rfl rfl ?_ | refine w_callR progOk [(26, 1)] [(1, 26)] rfl rfl rfl rfl rfl cd rfl rfl rfl rfl rfl ?_ | refine w_convS progOk rfl rfl rfl rfl rfl rfl (bytesE_eq _).symm rfl ?_ | fail)
  exact w_fin rfl (Sub.of_eq (by simp only [List.append_assoc]))
theorem ebytes_ok (x : Entry) (hm : mayE x = true) (ha : x.b.recs.length ≤ 1000000) (hp : x.prod.seen.length ≤ 1000000) : Ct Tryz.prog 59 [.agg (liftT (encEntry x))] [] (.tuple [.t (.str (entryB x)), .t (.int .i64 0)]) [] := by
  rcases mayE_kind hm with h | h | h | h | h | h | h
  · exact ebytes0 x h hm ha hp
  · exact ebytes1 x h hm ha hp
  · exact ebytes2 x h hm ha hp
  · exact ebytes3 x h hm ha hp
  · exact ebytes4 x h hm ha hp
  · exact ebytes5 x h hm ha hp
  · exact ebytes6 x h hm ha hp
theorem ebytes_no (x : Entry) (hm : mayE x = false) (ha : x.b.recs.length ≤ 1000000) (hp : x.prod.seen.length ≤ 1000000) : Ct Tryz.prog 59 [.agg (liftT (encEntry x))] [] (.tuple [.t (.str []), .t (.int .i64 2)]) [] := by
  have cm : Ct Tryz.prog 109 [.agg (liftT (encEntry x))] [] (.t (.bool false)) [] := hm ▸ emay_ok known_ok x ha hp
  refine ct0 progOk Tryz.func59 rfl false rfl rfl ?_
  repeat' (first | refine w_step progOk rfl rfl rfl ?_ | refine w_nil ?_ | refine w_seq ?_ | refine w_reg progOk rfl rfl ?_ | (refine w_condP rfl (ht := fun h => ?_) (hf := fun h => ?_) <;> try exact prn) | refine w_ret ?_ | refine w_call progOk rfl rfl rfl rfl rfl rfl rfl (cm) rfl rfl ?_ | fail)
  exact w_fin rfl (Sub.of_eq rfl)
end Go.Proofs.YtpdmaenhenfofaaGreatDoor

namespace Go.Proofs.YtpdmaenhenfofaaGreatDoor
open Go.Am
attribute [local irreducible] Decidable.decide
set_option maxRecDepth 100000
set_option maxHeartbeats 1000000
def goodN (l : List Entry) : Nat := l.findIdx (fun x => !mayE x)
theorem goodN_at {l : List Entry} {i : Nat} {x : Entry} (h : l[i]? = some x) (ha : (l.take i).all mayE = true) (hx : mayE x = false) : goodN l = i := by
  obtain ⟨hi, rfl⟩ := List.getElem?_eq_some_iff.1 h
  refine (List.findIdx_eq hi).2 ⟨by simp [hx], fun j hj => ?_⟩
  have := List.all_eq_true.1 ha l[j] (List.mem_of_getElem? (i := j) (by rw [List.getElem?_take, if_pos hj, List.getElem?_eq_getElem (by omega)]))
  simp [this]
def eachV (l : List Entry) : AV := if l.all mayE = true then .tuple [.t (.slice .any 1 ((l.map entryB).map encStr)), .t .nilIface] else .tuple [.t (.slice .any 1 []), .t (.iface 205 (.ptr [.int .i64 (goodN l), .int .i64 2]))]
theorem each_ok (l : List Entry) (hl : l.length ≤ 1000000) (hsm : ∀ x ∈ l, smallE x) : Ct Tryz.prog 58 [.t (.slice .any 18 (l.map encEntry)), .t (.func (.func 59) [] [])] [] (eachV l) [] := by
  have hlm : (l.map encEntry).length = l.length := List.length_map ..
  have hfree : (eachV l).free = true := by unfold eachV; split <;> rfl
  refine ct0 progOk Tryz.func58 rfl false rfl hfree ?_
  have hcn : (((l.map encEntry).length : Nat) : Int) = ((l.length : Nat) : Int) := by rw [hlm]
  repeat' (first | refine w_step progOk rfl rfl rfl ?_ | refine w_nil ?_ | refine w_seq ?_ | refine w_reg progOk rfl rfl ?_ | refine w_block ?_ | refine w_make progOk rfl rfl rfl rfl rfl rfl rfl (l := 0) rfl hcn rfl rfl (by omega) (by omega) ?_ | fail)
  refine w_loop (ι := Nat) (fun i => i ≤ l.length ∧ (l.take i).all mayE = true) (fun i => [(1, .t (.func (.func 59) [] [])), (6, .row 26 1 0 (((l.take i).map entryB).map encStr).length), (14, .t (.slice .any 18 (l.map encEntry))), (15, .t (.int .i64 l.length)), (16, .t (.int .i64 i))]) (fun i => [(26, .grow 1 (((l.take i).map entryB).map encStr))]) (fun i => l.length - i) 0 (by simp) ?_ ?_
  · exact at_of [] (sub_eq rfl rfl (sub_eq rfl rfl (sub_eq rfl rfl (sub_eq rfl (by rw [hlm]) (sub_eq rfl rfl sub_nil))))) rfl
  rintro i ⟨hi, hall⟩
  by_cases hlt : i < l.length
  · have hr : l[i]? = some l[i] := List.getElem?_eq_getElem hlt
    have hs := hsm l[i] (List.getElem_mem hlt)
    generalize l[i] = r at hr hs
    cases hm : mayE r with
    | false =>
      repeat' (first | refine w_stepZ progOk rfl rfl rfl rfl rfl ?_ | refine w_step progOk rfl rfl rfl ?_ | refine w_nil ?_ | refine w_seq ?_ | refine w_reg progOk rfl rfl ?_ | (refine w_condP rfl (ht := fun h => ?_) (hf := fun h => ?_) <;> try exact prn) | refine w_block ?_ | refine w_skip ?_ | refine w_ret ?_ | refine w_index progOk rfl rfl rfl rfl rfl rfl rfl (map_get (by assumption)) rfl ?_ | refine w_call progOk rfl rfl rfl rfl rfl rfl rfl (ebytes_no r hm hs.1 hs.2) rfl rfl ?_ | fail)
      have hno : l.all mayE = false := all_not hr hm
      refine w_fin rfl ?_
      simp only [eachV, hno, goodN_at hr hall hm, Bool.false_eq_true, if_false]
      exact sub_tuple ⟨sub_slNil, Sub.refl _, trivial⟩
    | true =>
      repeat' (first | refine w_stepZ progOk rfl rfl rfl rfl rfl ?_ | refine w_step progOk rfl rfl rfl ?_ | refine w_nil ?_ | refine w_seq ?_ | refine w_reg progOk rfl rfl ?_ | (refine w_condP rfl (ht := fun h => ?_) (hf := fun h => ?_) <;> try exact prn) | refine w_block ?_ | refine w_skip ?_ | refine w_index progOk rfl rfl rfl rfl rfl rfl rfl (map_get (by assumption)) rfl ?_ | refine w_appRow progOk rfl rfl rfl rfl rfl rfl rfl rfl rfl rfl rfl rfl rfl rfl (by simp [chunk]; omega) ?_ | refine w_call progOk rfl rfl rfl rfl rfl rfl rfl (ebytes_ok r hm hs.1 hs.2) rfl rfl ?_ | fail)
      refine w_next (i + 1) ⟨hlt, all_of_take hr hall hm⟩ (by omega) [8] (sub_eq rfl rfl (sub_eq rfl ?_ (sub_eq rfl rfl (sub_eq rfl rfl (sub_eq rfl ?_ sub_nil))))) ?_
      · rw [take_succ hr]; simp [chunk]; rfl
      · rw [wrap64 (by omega) (by omega)]; rfl
      · rw [take_succ hr]; simp only [List.map_append, List.map_cons, List.map_nil]; rfl
  · repeat' (first | refine w_step progOk rfl rfl rfl ?_ | refine w_nil ?_ | refine w_seq ?_ | refine w_reg progOk rfl rfl ?_ | (refine w_condP rfl (ht := fun h => ?_) (hf := fun h => ?_) <;> try exact prn) | refine w_exit ?_ | refine w_ret ?_ | fail)
    have hall' := all_end (by omega) hall
    refine w_fin rfl ?_
    simp only [eachV, hall', if_true]
    rw [List.take_of_length_le (by omega)]
    refine Sub.of_eq ?_
    simp [frzA]
    exact List.take_of_length_le (by simp)
end Go.Proofs.YtpdmaenhenfofaaGreatDoor
