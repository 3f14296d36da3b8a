/- Contracts and laws, joined: Tc, Td, Tf. No condition beside those that each theorem names. -/
import Derived.Test.YtpdmaenhenfofaaGreatDoorZM10
import Derived.Test.YtpdmaenhenfofaaGreatDoorZM11
import Derived.Test.YtpdmaenhenfofaaGreatDoorZJ13
import Derived.Test.YtpdmaenhenfofaaGreatDoorZJ12
import Derived.Test.YtpdmaenhenfofaaGreatDoorZDm
import Derived.Test.YtpdmaenhenfofaaGreatDoorZJ10
set_option linter.unusedVariables false
set_option linter.unusedSimpArgs false
namespace Go.Proofs.YtpdmaenhenfofaaGreatDoor
open Go.Am
attribute [local irreducible] Decidable.decide
set_option maxRecDepth 100000
set_option maxHeartbeats 1000000
/- seqs.Clear -/
def clearS (l : List Prod) (pid : Int) : List Prod := match l.findIdx? (fun x => decide (x.pid = pid)) with
  | some i => (match l[i]? with
    | some x => putS l i (i + 1) { x with seen := [] }
    | none => l)
  | none => l
theorem clearPid_ok (pid : Int) (p : Prod) : Ct Tryz.prog 107 (.agg (liftT (encProd p)) :: liftT [.ptr [.int .i64 pid]]) [] (.t (.bool (decide (p.pid = pid)))) [] := by
  refine ct0 progOk Tryz.func107 rfl false rfl rfl ?_
  repeat' (first | refine w_step progOk rfl rfl rfl ?_ | refine w_nil ?_ | refine w_seq ?_ | refine w_reg progOk rfl rfl ?_ | refine w_ret ?_ | fail)
  exact w_fin rfl (Sub.refl _)
theorem clear_ok (l : List Prod) (pid : Int) (hl : smallPs l) : Ct Tryz.prog 57 [.t (.slice .any 4 (l.map encProd)), .t (.int .i64 pid)] [] (.t (.slice .any 4 ((clearS l pid).map encProd))) [] := by
  have hlen := hl.1
  have cf := firstProd_ok 107 [.ptr [.int .i64 pid]] (fun p => decide (p.pid = pid)) l (by omega) (clearPid_ok pid) rfl
  refine ct0 progOk Tryz.func57 rfl false rfl rfl ?_
  refine w_seq ?_
  refine w_reg progOk rfl rfl ?_
  repeat' (first | refine w_step progOk rfl rfl rfl ?_ | refine w_nil ?_ | fail)
  refine Tr.freezeBox (cs := [.int .i64 pid]) 3 6 rfl rfl rfl rfl ?_
  cases hh : l.any (fun p => decide (p.pid = pid)) with
  | false =>
    rw [hh] at cf
    have hs : clearS l pid = l := by
      have : l.findIdx? (fun x => decide (x.pid = pid)) = none := by rw [List.findIdx?_eq_none_iff]; intro x hx; simpa using List.any_eq_false.1 hh x hx
      simp [clearS, this]
    repeat' (first | refine w_step progOk rfl rfl rfl ?_ | refine w_nil ?_ | refine w_seq ?_ | refine w_reg progOk rfl rfl ?_ | (refine w_condP rfl (ht := fun h => ?_) (hf := fun h => ?_) <;> try exact prn) | refine w_ret ?_ | refine w_call progOk rfl rfl rfl rfl rfl rfl rfl (cf) rfl rfl ?_ | fail)
    exact w_fin rfl (Sub.of_eq (by rw [hs]; rfl))
  | true =>
    obtain ⟨i, x, hx, hi, _, _⟩ := fst_get hh
    rw [hh, hi] at cf
    have hlt := (List.getElem?_eq_some_iff.1 hx).1
    have hfi : l.findIdx? (fun x => decide (x.pid = pid)) = some i := by
      unfold fstI at hi
      cases hf : l.findIdx? (fun x => decide (x.pid = pid)) with
      | none => rw [hf] at hi; simp at hi; omega
      | some j => rw [hf] at hi; simp at hi; exact congrArg some (by omega)
    have cp1 := put_prod_ok l i (i + 1) { x with seen := [] } hl (by omega) (by omega) (by simp)
    have hw : IntKind.i64.wrap ((i : Int) + 1) = ((i + 1 : Nat) : Int) := by rw [wrap64 (by omega) (by omega)]; rfl
    rw [← hw] at cp1
    repeat' (first | refine w_stepZ progOk rfl rfl rfl rfl rfl ?_ | refine w_step progOk rfl rfl rfl ?_ | refine w_nil ?_ | refine w_seq ?_ | refine w_reg progOk rfl rfl ?_ | (refine w_condP rfl (ht := fun h => ?_) (hf := fun h => ?_) <;> try exact prn) | refine w_skip ?_ | refine w_ret ?_ | refine w_index progOk rfl rfl rfl rfl rfl rfl rfl (map_get (by assumption)) rfl ?_ | refine w_call progOk rfl rfl rfl rfl rfl rfl rfl (cf) rfl rfl ?_ | refine w_callZ progOk rfl rfl rfl rfl (cp1) rfl rfl rfl ⟨Sub.refl _, Sub.refl _, Sub.refl _, (by refine sub_agg ?_; exact ⟨Sub.refl _, Sub.refl _, Sub.refl _, sub_slNil, trivial⟩), trivial⟩ ?_ | fail)
    refine w_fin rfl (Sub.of_eq ?_)
    simp [clearS, hfi, hx]
/- writing into the log -/
theorem sput_ok (e i : Int) (he : e = 0 ∨ e = 1) (hi : i = 0 ∨ i = 1 ∨ i = 2) (l : List Entry) (hl : l.length ≤ 1000000) (hsm : ∀ x ∈ l, smallE x) (hok : putE l = 0) : Ct Tryz.prog 265 [.agg (liftT (encSpot e i)), .t (.slice .any 18 (l.map encEntry)), .t (.int .i64 0)] [] (.tuple [.t (.slice .any 4 ((putR (logN e i) l).map encWr)), .t .nilIface]) [] := by
  have cl := spotLog_ok e i he hi
  have cp := eput_ok (logN e i) l hl hsm
  rw [hok] at cp
  refine ct0 progOk Tryz.func265 rfl false rfl rfl ?_
  repeat' (first | refine w_step progOk rfl rfl rfl ?_ | refine w_nil ?_ | refine w_seq ?_ | refine w_reg progOk rfl rfl ?_ | (refine w_condP rfl (ht := fun h => ?_) (hf := fun h => ?_) <;> try exact prn) | refine w_skip ?_ | refine w_ret ?_ | refine w_call progOk rfl rfl rfl rfl rfl rfl rfl (cl) rfl rfl ?_ | refine w_call progOk rfl rfl rfl rfl rfl rfl rfl (cp) rfl rfl ?_ | fail)
  exact w_fin rfl (Sub.refl _)
def entM (o : Opn) (yes : Bool) : Entry := { kind := 1, b := ⟨o.pid, o.epoch, 0, false, []⟩, yes := yes, next := 0, offset := 0, row := ⟨0, 0, 0, [], []⟩, prod := prodZ }
theorem entM_may {o : Opn} {yes : Bool} (h1 : 1 ≤ o.pid ∧ o.pid ≤ 8) (h2 : 0 ≤ o.epoch ∧ o.epoch ≤ 100) : mayE (entM o yes) = true := by
  have h : isBare (entM o yes) = true := by simp [isBare, bareE, entM, bareB, prodZ]
  simp only [mayE, h, Bool.true_and]
  simp [entM, h1.1, h1.2, h2.1, h2.2]
theorem endI_ok (e i : Int) (he : e = 0 ∨ e = 1) (hi : i = 0 ∨ i = 1 ∨ i = 2) (o : Opn) (yes : Bool) (h1 : 1 ≤ o.pid ∧ o.pid ≤ 8) (h2 : 0 ≤ o.epoch ∧ o.epoch ≤ 100) : Ct Tryz.prog 262 [.t (.agg (encSpot e i)), .agg (liftT (encOpn o)), .t (.bool yes)] [] (.tuple [.t (.slice .any 4 ((putW (logN e i) [entM o yes]).map encWr)), .t .nilIface]) [] := by
  have hm : mayE (entM o yes) = true := entM_may h1 h2
  have cp := sput_ok e i he hi [entM o yes] (by simp) (by simp [smallE, entM, prodZ]) (by simp [putE, hm])
  rw [show putR (logN e i) [entM o yes] = putW (logN e i) [entM o yes] by simp [putR, hm]] at cp
  refine ct0 progOk Tryz.func262 rfl false rfl rfl ?_
  repeat' (first | refine w_stepZ progOk rfl rfl rfl rfl rfl ?_ | refine w_step progOk rfl rfl rfl ?_ | refine w_nil ?_ | refine w_seq ?_ | refine w_reg progOk rfl rfl ?_ | refine w_ret ?_ | refine w_callZ progOk rfl rfl rfl rfl cp rfl rfl rfl ⟨Sub.refl _, sub_sl ⟨⟨SubT.refl _, SubT.refl _, SubT.refl _, SubT.refl _, SubT.refl _, SubT.nil, SubT.refl _, SubT.refl _, SubT.refl _, SubT.refl _, SubT.refl _, SubT.refl _, SubT.refl _, SubT.refl _, SubT.refl _, SubT.refl _, SubT.refl _, SubT.nil, trivial⟩, trivial⟩, Sub.refl _, trivial⟩ ?_ | fail)
  exact w_fin rfl (Sub.refl _)
/- what drops a transaction; its copies -/
def entX (o : Opn) : Entry := { kind := 4, b := ⟨o.pid, o.epoch, 0, false, []⟩, yes := false, next := lastB o.batches, offset := 0, row := ⟨0, 0, 0, [], []⟩, prod := prodZ }
theorem chain_all {pid ep : Int} : ∀ {l : List Batch} {n : Int}, copyChain pid ep n l = true → ∀ b ∈ l, mayBatch b = true ∧ b.txn = true ∧ b.pid = pid ∧ b.epoch = ep
  | [], _, _, b, hb => by simp at hb
  | a :: r, n, h, b, hb => by
    simp only [copyChain, Bool.and_eq_true, decide_eq_true_eq] at h
    rcases List.mem_cons.1 hb with rfl | hb
    · exact ⟨h.1.1.1.1.1, h.1.1.1.1.2, h.1.1.1.2, h.1.1.2⟩
    · exact chain_all h.2 b hb
theorem copyOk_all {o : Opn} (h : copyOk o = true) : ∀ b ∈ o.batches, mayBatch b = true ∧ b.txn = true ∧ b.pid = o.pid ∧ b.epoch = o.epoch := by
  simp only [copyOk, Bool.and_eq_true] at h
  exact chain_all h.2
theorem copyOk_pid {o : Opn} (h : copyOk o = true) : (1 ≤ o.pid ∧ o.pid ≤ 8) ∧ 0 ≤ o.epoch ∧ o.epoch ≤ 100 := by
  have hl := copyOk_len h
  obtain ⟨b, hb⟩ : ∃ b, b ∈ o.batches := List.exists_mem_of_length_pos (by omega)
  obtain ⟨h1, _, h2, h3⟩ := copyOk_all h b hb
  have hbb := boundsB_of h1
  unfold boundsB at hbb
  omega
theorem lastB_mem : ∀ {l : List Batch}, l ≠ [] → ∃ b ∈ l, lastB l = behindB b
  | [], h => absurd rfl h
  | [a], _ => ⟨a, by simp, rfl⟩
  | a :: c :: r, _ => by
    obtain ⟨b, h1, h2⟩ := lastB_mem (l := c :: r) (by simp)
    exact ⟨b, by simp at h1 ⊢; exact .inr h1, by simpa [lastB] using h2⟩
theorem lastB_bounds {o : Opn} (h : copyOk o = true) : 0 ≤ lastB o.batches ∧ lastB o.batches ≤ 1048576 := by
  have hl := copyOk_len h
  obtain ⟨b, hb, e⟩ := lastB_mem (l := o.batches) (fun h => by rw [h] at hl; simp at hl)
  have := may_bounds (copyOk_all h b hb).1
  rw [e]; unfold behindB; omega
theorem entX_may {o : Opn} (h : copyOk o = true) : mayE (entX o) = true := by
  obtain ⟨h1, h2⟩ := copyOk_pid h
  have h3 := lastB_bounds h
  have hb : isBare (entX o) = true := by simp [isBare, bareE, entX, bareB, prodZ]
  simp only [mayE, hb, Bool.true_and]
  simp [entX, h1.1, h1.2, h2.1, h2.2, h3.1, h3.2]
theorem copies_may {o : Opn} (h : copyOk o = true) : (copiesOf o).all mayE = true ∧ copiesOf o ≠ [] ∧ ∀ x ∈ copiesOf o, smallE x := by
  have hl := copyOk_len h
  have h3 := lastB_bounds h
  have key : ∀ x ∈ copiesOf o, mayE x = true ∧ smallE x := fun x hx => by
    obtain ⟨i, hi, rfl⟩ := List.mem_iff_getElem.1 hx
    simp only [copiesOf, List.length_mapIdx] at hi
    obtain ⟨q1, q2, _⟩ := copyOk_all h o.batches[i] (List.getElem_mem hi)
    have hm := may_bounds q1
    simp only [copiesOf, List.getElem_mapIdx, copyAt]
    split
    · refine ⟨?_, by simp [smallE]; omega⟩
      have hb : isBare ⟨3, o.batches[i], true, lastB o.batches, 0, row0, prod0⟩ = true := by simp [isBare, bareE]
      simp only [mayE, hb, Bool.true_and]
      simp [q1, q2, h3.1, h3.2]
    · refine ⟨?_, by simp [smallE]; omega⟩
      have hb : isBare ⟨3, o.batches[i], false, 0, 0, row0, prod0⟩ = true := by simp [isBare, bareE]
      simp only [mayE, hb, Bool.true_and]
      simp [q1, q2]
  refine ⟨List.all_eq_true.2 fun x hx => (key x hx).1, fun he => ?_, fun x hx => (key x hx).2⟩
  have : (copiesOf o).length = o.batches.length := by simp [copiesOf]
  rw [he] at this; simp at this; omega
theorem drop_ok (o : Opn) (h : copyOk o = true) (hs : smallO o) : Ct Tryz.prog 269 [.agg (liftT (encOpn o))] [] (.tuple [.agg (liftT (encEntry (entX o))), .t (.int .i64 0)]) [] := by
  have cc := ccheckT_ok o hs
  rw [show ccT o = .nilIface by simp [ccT, h]] at cc
  have hl := copyOk_len h
  have cb := cbehind_ok o hl.1 hl.2 (fun b hb => (copyOk_all h b hb).1)
  refine ct0 progOk Tryz.func269 rfl false rfl rfl ?_
  repeat' (first | refine w_stepZ progOk rfl rfl rfl rfl rfl ?_ | refine w_step progOk rfl rfl rfl ?_ | refine w_nil ?_ | refine w_seq ?_ | refine w_reg progOk rfl rfl ?_ | (refine w_condP rfl (ht := fun h => ?_) (hf := fun h => ?_) <;> try exact prn) | refine w_skip ?_ | refine w_ret ?_ | refine w_regD (id := 4) (m := 7) progOk (by kernel_rfl) rfl rfl rfl rfl ?_ | refine s_step rfl rfl rfl rfl ?_ | refine w_call progOk rfl rfl rfl rfl rfl rfl rfl (cc) rfl rfl ?_ | refine s_call rfl rfl rfl rfl rfl (cb) rfl rfl ?_ | fail)
  refine w_fin rfl (sub_tuple ⟨sub_agg ?_, Sub.refl _, trivial⟩)
  exact ⟨Sub.refl _, Sub.refl _, Sub.refl _, Sub.refl _, Sub.refl _, sub_slNil, Sub.refl _, Sub.refl _, Sub.refl _, Sub.refl _, Sub.refl _, Sub.refl _, Sub.refl _, Sub.refl _, Sub.refl _, Sub.refl _, Sub.refl _, sub_slNil, trivial⟩
/- what is put, as a row of the caller's own -/
theorem eputR_ok (name : Bs) (l : List Entry) (hl : l.length ≤ 1000000) (hsm : ∀ x ∈ l, smallE x) (hall : l.all mayE = true) (hne : l ≠ []) : Ct Tryz.prog 11 [.t (.str name), .t (.slice .any 18 (l.map encEntry))] [] (.tuple [.row 86 4 0 ((putW name l).map encWr).length, .t (.int .i64 0)]) [(86, .grow 4 ((putW name l).map encWr))] := by
  refine ct1 progOk Tryz.func11 rfl rfl ?_
  have cl := loads_ok l hl hsm
  simp only [if_pos hall] at cl
  have hlm : ((l.map entryB).map encStr).length = l.length := by simp
  have hpos : l.length ≠ 0 := fun e => hne (List.eq_nil_of_length_eq_zero e)
  repeat' (first | refine w_step progOk rfl rfl rfl ?_ | refine w_nil ?_ | refine w_seq ?_ | refine w_reg progOk rfl rfl ?_ | (refine w_gFP rfl rfl rfl rfl rfl (ht := fun h => ?_) (hf := fun h => ?_) <;> try exact prn) | (refine w_condP rfl (ht := fun h => ?_) (hf := fun h => ?_) <;> try exact prn) | refine w_block ?_ | refine w_skip ?_ | refine w_call progOk rfl rfl rfl rfl rfl rfl rfl (cl) rfl rfl ?_ | fail)
  all_goals try (exfalso; omega)
  refine Tr.nilRow 8 43 4 rfl rfl ?_
  refine w_loop (ι := Nat) (fun i => i ≤ l.length) (fun i => [(0, .t (.str name)), (8, .row 86 4 0 (((l.take i).map (wrOf name)).map encWr).length), (25, .t (.slice .any 1 ((l.map entryB).map encStr))), (26, .t (.int .i64 l.length)), (27, .t (.int .i64 i))]) (fun i => [(86, .grow 4 (((l.take i).map (wrOf name)).map encWr))]) (fun i => l.length - i) 0 (by simp) ?_ ?_
  · exact at_of [] (sub_eq rfl rfl (sub_eq rfl rfl (sub_eq rfl rfl (sub_eq rfl (by rw [hlm]) (sub_eq rfl rfl sub_nil))))) rfl
  rintro i hi
  by_cases hlt : i < l.length
  · have hr : l[i]? = some l[i] := List.getElem?_eq_getElem hlt
    have hm := List.all_eq_true.1 hall l[i] (List.getElem_mem hlt)
    generalize l[i] = r at hr hm
    have hr2 : (l.map entryB)[i]? = some (entryB r) := by simp [hr]
    repeat' (first | refine w_stepZ progOk rfl rfl rfl rfl rfl ?_ | refine w_step progOk rfl rfl rfl ?_ | refine w_nil ?_ | refine w_seq ?_ | refine w_reg progOk rfl rfl ?_ | (refine w_condP rfl (ht := fun h => ?_) (hf := fun h => ?_) <;> try exact prn) | refine w_block ?_ | refine w_skip ?_ | refine w_index progOk rfl rfl rfl rfl rfl rfl rfl (map_get (by assumption)) rfl ?_ | refine w_appRow progOk rfl rfl rfl rfl rfl rfl rfl rfl rfl rfl rfl rfl rfl rfl (by simp [chunk]; omega) ?_ | refine w_call progOk rfl rfl rfl rfl rfl rfl rfl (fbytes_ok _ (entryB_len hm)) rfl rfl ?_ | fail)
    refine w_next (i + 1) hlt (by omega) [] (sub_eq rfl rfl (sub_eq rfl ?_ (sub_eq rfl rfl (sub_eq rfl rfl (sub_eq rfl ?_ sub_nil))))) ?_
    · rw [take_succ hr]; simp [chunk]
    · rw [wrap64 (by omega) (by omega)]; rfl
    · rw [take_succ hr]; simp [chunk, ti88, encWr, wrOf, dropS, killS]
  · repeat' (first | refine w_stepZ progOk rfl rfl rfl rfl rfl ?_ | refine w_step progOk rfl rfl rfl ?_ | refine w_nil ?_ | refine w_seq ?_ | refine w_reg progOk rfl rfl ?_ | (refine w_condP rfl (ht := fun h => ?_) (hf := fun h => ?_) <;> try exact prn) | refine w_exit ?_ | refine w_appRow progOk rfl rfl rfl rfl rfl rfl rfl rfl rfl rfl rfl rfl rfl rfl (by simp [chunk]; omega) ?_ | fail)
    refine w_ret ?_
    have he : (putW name l).map encWr = ((l.take i).map (wrOf name)).map encWr ++ [encWr ⟨1, name, [], 0⟩] := by
      rw [List.take_of_length_le (by omega)]; simp [putW]
    rw [he]
    exact w_fin1 [] rfl rfl rfl (Sub.refl _)
theorem sputR_ok (e i : Int) (he : e = 0 ∨ e = 1) (hi : i = 0 ∨ i = 1 ∨ i = 2) (l : List Entry) (hl : l.length ≤ 1000000) (hsm : ∀ x ∈ l, smallE x) (hall : l.all mayE = true) (hne : l ≠ []) : Ct Tryz.prog 265 [.agg (liftT (encSpot e i)), .t (.slice .any 18 (l.map encEntry)), .t (.int .i64 0)] [] (.tuple [.row 86 4 0 ((putW (logN e i) l).map encWr).length, .t .nilIface]) [(86, .grow 4 ((putW (logN e i) l).map encWr))] := by
  have cl := spotLog_ok e i he hi
  have cp := eputR_ok (logN e i) l hl hsm hall hne
  refine ct1 progOk Tryz.func265 rfl rfl ?_
  repeat' (first | refine w_step progOk rfl rfl rfl ?_ | refine w_nil ?_ | refine w_seq ?_ | refine w_reg progOk rfl rfl ?_ | (refine w_condP rfl (ht := fun h => ?_) (hf := fun h => ?_) <;> try exact prn) | refine w_skip ?_ | refine w_call progOk rfl rfl rfl rfl rfl rfl rfl (cl) rfl rfl ?_ | refine w_callR progOk [] [(86, 86)] rfl rfl rfl rfl rfl cp rfl rfl rfl rfl rfl ?_ | fail)
  refine w_ret ?_
  exact w_fin1 [3] rfl rfl rfl (Sub.refl _)
/- the end of a transaction in the buffer engine -/
def endWB (i : Int) (o : Opn) (yes : Bool) : List Wr := putW (logN 1 i) (if yes = true then copiesOf o else [entX o]) ++ [⟨4, sideN i o.pid, [], 0⟩]
theorem endB_ok (i : Int) (hi : i = 0 ∨ i = 1 ∨ i = 2) (o : Opn) (yes : Bool) (h : copyOk o = true) (hs : smallO o) : Ct Tryz.prog 266 [.t (.agg (encSpot 1 i)), .agg (liftT (encOpn o)), .t (.bool yes)] [] (.tuple [.t (.slice .any 4 ((endWB i o yes).map encWr)), .t .nilIface]) [] := by
  have hl := copyOk_len h
  have cd := drop_ok o h hs
  have cc := copies_ok o h
  obtain ⟨m1, m2, m3⟩ := copies_may h
  have hx := entX_may h
  have hlc : (copiesOf o).length = o.batches.length := by simp [copiesOf]
  obtain ⟨p1, p2⟩ := copyOk_pid h
  have csd := side_ok i o.pid hi (by omega)
  cases yes with
  | true =>
    have cp := sputR_ok 1 i (.inr rfl) hi (copiesOf o) (by omega) m3 m1 m2
    have hwl : (putW (logN 1 i) (copiesOf o)).length ≤ 100 := by simp [putW]; omega
    refine ct0 progOk Tryz.func266 rfl false rfl rfl ?_
    repeat' (first | refine w_stepZ progOk rfl rfl rfl rfl rfl ?_ | refine w_step progOk rfl rfl rfl ?_ | refine w_nil ?_ | refine w_seq ?_ | refine w_reg progOk rfl rfl ?_ | (refine w_condP rfl (ht := fun h => ?_) (hf := fun h => ?_) <;> try exact prn) | refine w_skip ?_ | refine w_ret ?_ | refine w_appRow progOk rfl rfl rfl rfl rfl rfl rfl rfl rfl rfl rfl rfl rfl rfl (by simp [chunk]; omega) ?_ | refine w_call progOk rfl rfl rfl rfl rfl rfl rfl (cd) rfl rfl ?_ | refine w_call progOk rfl rfl rfl rfl rfl rfl rfl (cc) rfl rfl ?_ | refine w_callR progOk [] [(86, 86)] rfl rfl rfl rfl rfl cp rfl rfl rfl rfl rfl ?_ | refine w_call progOk rfl rfl rfl rfl rfl rfl rfl (csd) rfl rfl ?_ | fail)
    refine w_fin rfl (Sub.of_eq ?_)
    simp [endWB, frzA, encWr, chunk, ti88]
    try exact List.take_of_length_le (by simp)
  | false =>
    have cp := sputR_ok 1 i (.inr rfl) hi [entX o] (by simp) (by simp [smallE, entX, prodZ]) (by simp [hx]) (by simp)
    have hwl : (putW (logN 1 i) [entX o]).length ≤ 100 := by simp [putW]
    refine ct0 progOk Tryz.func266 rfl false rfl rfl ?_
    repeat' (first | refine w_stepZ progOk rfl rfl rfl rfl rfl ?_ | refine w_step progOk rfl rfl rfl ?_ | refine w_nil ?_ | refine w_seq ?_ | refine w_reg progOk rfl rfl ?_ | (refine w_condP rfl (ht := fun h => ?_) (hf := fun h => ?_) <;> try exact prn) | refine w_skip ?_ | refine w_ret ?_ | refine w_call progOk rfl rfl rfl rfl rfl rfl rfl (cd) rfl rfl ?_ | refine w_callR progOk [] [(86, 86)] rfl rfl rfl rfl rfl (Ct.args cp ⟨Sub.refl _, sub_slice, Sub.refl _, trivial⟩) rfl rfl rfl rfl rfl ?_ | refine w_call progOk rfl rfl rfl rfl rfl rfl rfl (csd) rfl rfl ?_ | fail)
    refine w_fin rfl (Sub.of_eq ?_)
    simp [endWB, frzA, encWr, chunk, ti88]
    try exact List.take_of_length_le (by simp)
end Go.Proofs.YtpdmaenhenfofaaGreatDoor

namespace Go.Proofs.YtpdmaenhenfofaaGreatDoor
open Go.Am
attribute [local irreducible] Decidable.decide
set_option maxRecDepth 100000
set_option maxHeartbeats 1000000
theorem moreI_ok (e i : Int) : Ct Tryz.prog 263 [.t (.agg (encSpot e i))] [] (.t (.int .i64 1)) [] := by
  refine ct0 progOk Tryz.func263 rfl false rfl rfl ?_
  repeat' (first | refine w_step progOk rfl rfl rfl ?_ | refine w_nil ?_ | refine w_seq ?_ | refine w_reg progOk rfl rfl ?_ | refine w_ret ?_ | fail)
  exact w_fin rfl (Sub.refl _)
theorem moreB_ok (e i : Int) : Ct Tryz.prog 267 [.t (.agg (encSpot e i))] [] (.t (.int .i64 0)) [] := by
  refine ct0 progOk Tryz.func267 rfl false rfl rfl ?_
  repeat' (first | refine w_step progOk rfl rfl rfl ?_ | refine w_nil ?_ | refine w_seq ?_ | refine w_reg progOk rfl rfl ?_ | refine w_ret ?_ | fail)
  exact w_fin rfl (Sub.refl _)
theorem without_ok (es : List (List T)) (i : Nat) (hi : i < es.length) (hlim : es.length ≤ 1000000) : Ct Tryz.prog 56 [.row 1 3 0 es.length, .t (.int .i64 i)] [(1, .grow 3 es)] (.row 1 3 0 (es.length - 1)) [(1, .grow 3 (es.eraseIdx i))] := by
  have cd := delete_ct [(1, .grow 3 es)] 1 es i rfl hi hlim
  have hw : IntKind.i64.wrap ((i : Int) + 1) = (i : Int) + 1 := by rw [wrap64 (by omega) (by omega)]
  rw [← hw] at cd
  refine ct1 progOk Tryz.func56 rfl rfl ?_
  repeat' (first | refine w_step progOk rfl rfl rfl ?_ | refine w_nil ?_ | refine w_seq ?_ | refine w_reg progOk rfl rfl ?_ | refine w_callR progOk [(1, 1)] [(1, 1)] rfl rfl rfl rfl rfl cd rfl rfl rfl rfl rfl ?_ | fail)
  refine w_ret ?_
  exact w_fin1 [] rfl rfl rfl (Sub.refl _)
/- a part with rows and open transactions of the caller's own -/
def partC (s f : Int) (rs : List Row) (os : List (List T)) (ps : List Prod) : St := [(3, .grow 5 (rs.map encRow)), (5, .grow 3 os), (1, .cells [.t (.int .i64 s), .t (.int .i64 f), .row 3 5 0 (rs.map encRow).length, .row 5 3 0 os.length, .t (.slice .any 4 (ps.map encProd))])]
theorem erowsC_ok (s f : Int) (rs : List Row) (os : List (List T)) (ps : List Prod) (b : Batch) (hb : mayBatch b = true) (h1 : 0 ≤ f) (h2 : f ≤ 1000000000) (h3 : rs.length ≤ 2000000) :
    Ct Tryz.prog 55 [.ref 1 0, .agg (liftT (encBatch b))] (partC s f rs os ps) (.tuple []) (partC s (f + b.recs.length) (rs ++ rowsOf b f) os ps) := by
  have hm := may_bounds hb
  have hlm : (b.recs.map encRec).length = b.recs.length := List.length_map ..
  have hlr : (rowsOf b f).length = b.recs.length := by simp [rowsOf]
  have hlr2 : ((rowsOf b f).map encRow).length = b.recs.length := by simp [rowsOf]
  have hlr3 : (rs.map encRow).length = rs.length := List.length_map ..
  have cr := rrows_ok b f hb (by omega) (by omega)
  refine ct1 progOk Tryz.func55 rfl rfl ?_
  repeat' (first | refine w_regR (id := 1) progOk [0] 11 (by kernel_rfl) rfl rfl rfl rfl rfl rfl (by rintro ch e s ⟨hx, _⟩; rcases hx with hx | hx <;> cases hx) ?_ | refine w_stepZ progOk rfl rfl rfl rfl rfl ?_ | refine w_step progOk rfl rfl rfl ?_ | refine w_nil ?_ | refine w_seq ?_ | refine w_reg progOk rfl rfl ?_ | refine w_appRow progOk rfl rfl rfl rfl rfl rfl rfl rfl rfl rfl rfl rfl rfl rfl (by simp [chunk]; omega) ?_ | refine w_regD (id := 2) (m := 7) progOk (by kernel_rfl) rfl rfl rfl rfl ?_ | refine s_step rfl rfl rfl rfl ?_ | refine s_call rfl rfl rfl rfl rfl (cr) rfl rfl ?_ | fail)
  refine w_fin1N [3] rfl rfl ?_ (Sub.refl _)
  have hw : IntKind.i64.wrap (f + ((b.recs.map encRec).length : Int)) = f + b.recs.length := by rw [hlm, wrap64 (by omega) (by omega)]
  rw [hw]
  simp only [partC, List.map_append]; rfl
theorem own6_ok (p : Part) (hs : smallPart p) : Ct Tryz.prog 53 [.agg (liftT (encPart p))] [] (.agg [.t (.int .i64 p.start), .t (.int .i64 p.fin), .row 28 5 0 (p.rows.map encRow).length, .row 80 3 0 (p.opens.map encOpn).length, .t (.slice .any 4 (p.prods.map encProd))]) [(80, .grow 3 (p.opens.map encOpn)), (28, .grow 5 (p.rows.map encRow))] := by
  rw [List.length_map, List.length_map]
  refine Ct.freezeK (e := []) [(90, .grow 4 (p.prods.map encProd))] (own_ok p hs) ?_
  have b1 : Nat.beq 28 90 = false := rfl
  have b2 : Nat.beq 80 90 = false := rfl
  have t1 : (p.prods.map encProd).take p.prods.length = p.prods.map encProd := List.take_of_length_le (by simp)
  simp [frzIn, ownRows, Am.look, hasL, AV.has, frzL, frzE, frzA, frzS, b1, b2, t1]
end Go.Proofs.YtpdmaenhenfofaaGreatDoor

namespace Go.Proofs.YtpdmaenhenfofaaGreatDoor
open Go.Am
attribute [local irreducible] Decidable.decide
set_option maxRecDepth 100000
set_option maxHeartbeats 1000000
def rowsAll : List Batch → Int → List Row
  | [], _ => []
  | b :: r, f => rowsOf b f ++ rowsAll r (f + b.recs.length)
def recsN : List Batch → Nat
  | [] => 0
  | b :: r => b.recs.length + recsN r
theorem rowsAll_snoc : ∀ (l : List Batch) (b : Batch) (f : Int), rowsAll (l ++ [b]) f = rowsAll l f ++ rowsOf b (f + recsN l)
  | [], b, f => by simp [rowsAll, recsN]
  | a :: r, b, f => by simp [rowsAll, rowsAll_snoc r b, recsN, Int.add_assoc]
theorem recsN_snoc : ∀ (l : List Batch) (b : Batch), recsN (l ++ [b]) = recsN l + b.recs.length
  | [], b => by simp [recsN]
  | a :: r, b => by simp [recsN, recsN_snoc r b]; omega
theorem rowsAll_len : ∀ (l : List Batch) (f : Int), (rowsAll l f).length = recsN l
  | [], f => rfl
  | a :: r, f => by simp [rowsAll, recsN, rowsAll_len r, rowsOf]
theorem recsN_le : ∀ {l : List Batch}, (∀ b ∈ l, mayBatch b = true) → recsN l ≤ 4 * l.length
  | [], _ => Nat.le_refl _
  | a :: r, h => by
    have ih := recsN_le (l := r) fun b hb => h b (by simp [hb])
    have := may_bounds (h a (by simp))
    simp only [recsN, List.length_cons]; omega
def endW (e i : Int) (o : Opn) (yes : Bool) : List Wr := if e = 0 then putW (logN e i) [entM o yes] else endWB i o yes
def endC (p : Part) (o : Opn) (yes : Bool) : List Row × Int := if yes = true then (p.rows ++ rowsAll o.batches p.fin, p.fin + recsN o.batches) else (p.rows, p.fin)
def endP (e : Int) (p : Part) (k : Nat) (o : Opn) (yes : Bool) : Part := ⟨p.start, (endC p o yes).2 + (if e = 0 then 1 else 0), (endC p o yes).1, p.opens.eraseIdx k, clearS p.prods o.pid⟩
def endR (p : Part) (w : List Wr) : AV := .tuple [.agg (liftT (encPart p)), .t (.slice .any 4 (w.map encWr)), .t (.int .i64 0)]
theorem ofW_ok (e q : Int) (p : Part) (h : badOf e q p = false) (hs : smallPart p) : Ct Tryz.prog 36 [.t (.int .i8 e), .t (.int .i64 q), .agg (liftT (encPart p))] [] (.tuple [.t (wrT e q), .t .nilIface]) [] := by
  have cof := of_ok e q p hs
  obtain ⟨⟨h1, h2⟩, _⟩ := of_good h
  rwa [h1, h2] at cof
theorem map_erase {α β : Type} {f : α → β} : ∀ (l : List α) (k : Nat), (l.map f).eraseIdx k = (l.eraseIdx k).map f
  | [], k => by simp
  | a :: r, 0 => rfl
  | a :: r, k + 1 => by simp [map_erase r k]
theorem end_fin (s f : Int) (R E P : List (List T)) (k n m : Nat) (hk : k < E.length) (hn : n = R.length) (hm : m = E.length - 1) : frzA 66 5 R (frzA 68 3 (E.eraseIdx k) (.agg [.t (.int .i64 s), .t (.int .i64 f), .row 66 5 0 n, .row 68 3 0 m, .t (.slice .any 4 P)])) = .agg [.t (.int .i64 s), .t (.int .i64 f), .t (.slice .any 5 R), .t (.slice .any 3 (E.eraseIdx k)), .t (.slice .any 4 P)] := by
  subst hn hm
  have h : (E.eraseIdx k).take (E.length - 1) = E.eraseIdx k := List.take_of_length_le (by simp [List.length_eraseIdx, hk])
  have h4 : E.length ≤ (E.eraseIdx k).length + 1 := by simp [List.length_eraseIdx, hk]; omega
  have b1 : Nat.beq 68 66 = false := rfl
  have b2 : Nat.beq 66 68 = false := rfl
  simp [frzA, frzL, b1, b2, h, h4]
theorem endT_ok (e q : Int) (p : Part) (pid : Int) (yes : Bool) (hs : smallPart p) (hgood : badOf e q p = false) (k : Nat) (o : Opn) (hk : p.opens[k]? = some o) (hidx : idxOf (fun o => decide (o.pid = pid)) p.opens = (k : Int)) (hany : p.opens.any (fun o => decide (o.pid = pid)) = true) (hpid : o.pid = pid) :
    Ct Tryz.prog 31 [.t (.int .i8 e), .t (.int .i64 q), .agg (liftT (encPart p)), .t (.int .i64 pid), .t (.bool yes)] [] (endR (endP e p k o yes) (endW e q o yes)) [] := by
  obtain ⟨_, he, hq, hpk⟩ := of_good hgood
  have hP := partOk_iff.1 hpk
  have hs' := hs
  obtain ⟨s1, s2, s3, s4⟩ := hs'
  have hcp := (hP.ook o (List.mem_of_getElem? hk)).1
  have hso := s3 o (List.mem_of_getElem? hk)
  obtain ⟨p1, p2⟩ := copyOk_pid hcp
  have hbl := copyOk_len hcp
  have hbm : ∀ b ∈ o.batches, mayBatch b = true := fun b hb => (copyOk_all hcp b hb).1
  have b0 := hP.b0
  have b1 := hP.b1
  have b2 := hP.b2
  have hlt := (List.getElem?_eq_some_iff.1 hk).1
  have cof := ofW_ok e q p hgood hs
  have cown := own6_ok p hs
  have cf := enfind_ok p.opens pid s2
  rw [hidx, hany] at cf
  have cw := without_ok (p.opens.map encOpn) k (by simpa using hlt) (by simpa using s2)
  have cc := clear_ok p.prods pid s4
  have hk2 : (p.opens.map encOpn)[k]? = some (encOpn o) := map_get hk
  have hk3 : (p.opens.map encOpn)[0 + k]? = some (encOpn o) := by rw [Nat.zero_add]; exact hk2
  have hw : (e = 0 ∧ wrT e q = .iface 152 (.agg (encSpot e q))) ∨ (e = 1 ∧ wrT e q = .iface 153 (.agg (encSpot e q))) := by
    rcases he with rfl | rfl
    · exact .inl ⟨rfl, rfl⟩
    · exact .inr ⟨rfl, rfl⟩
  rcases hw with ⟨he1, hw⟩ | ⟨he1, hw⟩
  · rw [hw] at cof
    have cen := endI_ok e q he hq o yes p1 p2
    have cm := moreI_ok e q
    have hW : endW e q o yes = putW (logN e q) [entM o yes] := by simp [endW, he1]
    rw [hW]
    generalize putW (logN e q) [entM o yes] = W at cen
    cases yes with
    | false =>
      refine ct0 progOk Tryz.func31 rfl false rfl rfl ?_
      repeat' (first | refine w_stepZ progOk rfl rfl rfl rfl rfl ?_ | refine w_step progOk rfl rfl rfl ?_ | refine w_nil ?_ | refine w_seq ?_ | refine w_reg progOk rfl rfl ?_ | (refine w_condP rfl (ht := fun h => ?_) (hf := fun h => ?_) <;> try exact prn) | refine w_skip ?_ | refine w_ret ?_ | refine w_regD (id := 18) (m := 4) progOk (by kernel_rfl) rfl rfl rfl rfl ?_ | refine s_step rfl rfl rfl rfl ?_ | refine w_call progOk rfl rfl rfl rfl rfl rfl rfl (cof) rfl rfl ?_ | refine w_callR progOk [] [(28, 66), (80, 68)] rfl rfl rfl rfl rfl cown rfl rfl rfl rfl rfl ?_ | refine w_callLend progOk rfl rfl rfl (lend_rowb rfl rfl) cf rfl rfl ?_ | refine w_indexR progOk rfl rfl rfl rfl rfl rfl rfl rfl (by simpa using hlt) rfl ?_ | refine w_loadEA progOk (e := encOpn o) rfl rfl rfl rfl rfl hk3 rfl rfl rfl ?_ | refine w_call progOk rfl rfl rfl rfl rfl rfl rfl (cen) rfl rfl ?_ | refine s_call rfl rfl rfl rfl rfl (cm) rfl rfl ?_ | refine w_callR progOk [(68, 1)] [(1, 68)] rfl rfl rfl rfl rfl cw rfl rfl rfl rfl rfl ?_ | refine w_call progOk rfl rfl rfl rfl rfl rfl rfl (cc) rfl rfl ?_ | fail)
      refine w_fin rfl (Sub.of_eq (Eq.trans (b := .tuple [frzA 66 5 (p.rows.map encRow) (frzA 68 3 ((p.opens.map encOpn).eraseIdx k) (.agg [.t (.int .i64 p.start), .t (.int .i64 (IntKind.i64.wrap (p.fin + 1))), .row 66 5 0 (p.rows.map encRow).length, .row 68 3 0 ((p.opens.map encOpn).length - 1), .t (.slice .any 4 ((clearS p.prods pid).map encProd))])), .t (.slice .any 4 (W.map encWr)), .t (.int .i64 0)]) rfl ?_))
      rw [end_fin _ _ _ _ _ _ _ _ (by simpa using hlt) rfl rfl, wrap64 (by omega) (by omega)]
      simp [endR, endP, endC, he1, hpid, encPart, liftT, map_erase]
    | true =>
      refine ct0 progOk Tryz.func31 rfl false rfl rfl ?_
      repeat' (first | refine w_stepZ progOk rfl rfl rfl rfl rfl ?_ | refine w_step progOk rfl rfl rfl ?_ | refine w_nil ?_ | refine w_seq ?_ | refine w_reg progOk rfl rfl ?_ | (refine w_condP rfl (ht := fun h => ?_) (hf := fun h => ?_) <;> try exact prn) | refine w_block ?_ | refine w_skip ?_ | refine w_call progOk rfl rfl rfl rfl rfl rfl rfl (cof) rfl rfl ?_ | refine w_callR progOk [] [(28, 66), (80, 68)] rfl rfl rfl rfl rfl cown rfl rfl rfl rfl rfl ?_ | refine w_callLend progOk rfl rfl rfl (lend_rowb rfl rfl) cf rfl rfl ?_ | refine w_indexR progOk rfl rfl rfl rfl rfl rfl rfl rfl (by simpa using hlt) rfl ?_ | refine w_loadEA progOk (e := encOpn o) rfl rfl rfl rfl rfl hk3 rfl rfl rfl ?_ | refine w_call progOk rfl rfl rfl rfl rfl rfl rfl (cen) rfl rfl ?_ | fail)
      refine Tr.weak (E := [(3, .t (.int .i64 pid)), (10, .ref 20 0), (11, .t (.slice .any 4 (W.map encWr))), (13, .t (.iface 152 (.agg (encSpot e q)))), (15, .t (.int .i64 k)), (63, .t (.slice .any 5 (o.batches.map encBatch))), (64, .t (.int .i64 o.batches.length)), (65, .t (.int .i64 (0 : Nat)))]) (S := [(68, .grow 3 (p.opens.map encOpn)), (66, .grow 5 (p.rows.map encRow)), (20, .cells [.t (.int .i64 p.start), .t (.int .i64 p.fin), .row 66 5 0 (p.rows.map encRow).length, .row 68 3 0 (p.opens.map encOpn).length, .t (.slice .any 4 (p.prods.map encProd))])]) ?_ (at_of [7, 17] (sub_eq rfl rfl (sub_eq rfl rfl (sub_eq rfl rfl (sub_eq rfl rfl (sub_eq rfl rfl (sub_eq rfl rfl (sub_eq rfl (by rw [List.length_map]; rfl) (sub_eq rfl rfl sub_nil)))))))) rfl)
      refine Tr.swapS rfl ?_
      refine w_loop (ι := Nat) (fun j => j ≤ o.batches.length) (fun j => [(3, .t (.int .i64 pid)), (10, .ref 20 0), (11, .t (.slice .any 4 (W.map encWr))), (13, .t (.iface 152 (.agg (encSpot e q)))), (15, .t (.int .i64 k)), (63, .t (.slice .any 5 (o.batches.map encBatch))), (64, .t (.int .i64 o.batches.length)), (65, .t (.int .i64 j))]) (fun j => [(66, .grow 5 ((p.rows ++ rowsAll (o.batches.take j) p.fin).map encRow)), (68, .grow 3 (p.opens.map encOpn)), (20, .cells [.t (.int .i64 p.start), .t (.int .i64 (p.fin + recsN (o.batches.take j))), .row 66 5 0 ((p.rows ++ rowsAll (o.batches.take j) p.fin).map encRow).length, .row 68 3 0 (p.opens.map encOpn).length, .t (.slice .any 4 (p.prods.map encProd))])]) (fun j => o.batches.length - j) 0 (by simp) ?_ ?_
      · refine at_of [] (sub_eq rfl rfl (sub_eq rfl rfl (sub_eq rfl rfl (sub_eq rfl rfl (sub_eq rfl rfl (sub_eq rfl rfl (sub_eq rfl rfl (sub_eq rfl rfl sub_nil)))))))) ?_
        simp only [List.take_zero, rowsAll, recsN, List.append_nil, Int.natCast_zero, Int.add_zero]
        rfl
      rintro j hj
      by_cases hlt2 : j < o.batches.length
      · have hr : o.batches[j]? = some o.batches[j] := List.getElem?_eq_getElem hlt2
        have hmb := hbm o.batches[j] (List.getElem_mem hlt2)
        generalize o.batches[j] = bb at hr hmb
        have hts := take_succ hr
        have hrn := recsN_le (l := o.batches.take j) fun b hb => hbm b (List.mem_of_mem_take hb)
        have htl : (o.batches.take j).length ≤ 8 := by rw [List.length_take]; omega
        have her := erowsC_ok p.start (p.fin + recsN (o.batches.take j)) (p.rows ++ rowsAll (o.batches.take j) p.fin) (p.opens.map encOpn) p.prods bb hmb (by omega) (by omega) (by rw [List.length_append, rowsAll_len]; omega)
        repeat' (first | refine w_stepZ progOk rfl rfl rfl rfl rfl ?_ | refine w_step progOk rfl rfl rfl ?_ | refine w_nil ?_ | refine w_seq ?_ | refine w_reg progOk rfl rfl ?_ | (refine w_condP rfl (ht := fun h => ?_) (hf := fun h => ?_) <;> try exact prn) | refine w_block ?_ | refine w_skip ?_ | refine w_index progOk rfl rfl rfl rfl rfl rfl rfl (map_get (by assumption)) rfl ?_ | refine w_callR progOk [(66, 3), (68, 5), (20, 1)] [(3, 66), (5, 68), (1, 20)] rfl rfl rfl rfl rfl her rfl rfl rfl rfl rfl ?_ | fail)
        refine w_next (j + 1) hlt2 (by omega) [19] (sub_eq rfl rfl (sub_eq rfl rfl (sub_eq rfl rfl (sub_eq rfl rfl (sub_eq rfl rfl (sub_eq rfl rfl (sub_eq rfl rfl (sub_eq rfl (by rw [wrap64 (by omega) (by omega)]; rfl) sub_nil)))))))) ?_
        rw [hts, rowsAll_snoc, recsN_snoc, ← List.append_assoc, Int.natCast_add, ← Int.add_assoc]
        rfl
      · have hjn : j = o.batches.length := by omega
        subst hjn
        rw [List.take_length]
        have hrn := recsN_le hbm
        repeat' (first | refine w_stepZ progOk rfl rfl rfl rfl rfl ?_ | refine w_step progOk rfl rfl rfl ?_ | refine w_nil ?_ | refine w_seq ?_ | refine w_reg progOk rfl rfl ?_ | (refine w_condP rfl (ht := fun h => ?_) (hf := fun h => ?_) <;> try exact prn) | refine w_exit ?_ | refine w_ret ?_ | refine w_regD (id := 18) (m := 4) progOk (by kernel_rfl) rfl rfl rfl rfl ?_ | refine s_step rfl rfl rfl rfl ?_ | refine s_call rfl rfl rfl rfl rfl (cm) rfl rfl ?_ | refine w_callR progOk [(68, 1)] [(1, 68)] rfl rfl rfl rfl rfl cw rfl rfl rfl rfl rfl ?_ | refine w_call progOk rfl rfl rfl rfl rfl rfl rfl (cc) rfl rfl ?_ | fail)
        refine w_fin rfl (Sub.of_eq (Eq.trans (b := .tuple [frzA 66 5 ((p.rows ++ rowsAll o.batches p.fin).map encRow) (frzA 68 3 ((p.opens.map encOpn).eraseIdx k) (.agg [.t (.int .i64 p.start), .t (.int .i64 (IntKind.i64.wrap ((p.fin + recsN o.batches) + 1))), .row 66 5 0 ((p.rows ++ rowsAll o.batches p.fin).map encRow).length, .row 68 3 0 ((p.opens.map encOpn).length - 1), .t (.slice .any 4 ((clearS p.prods pid).map encProd))])), .t (.slice .any 4 (W.map encWr)), .t (.int .i64 0)]) rfl ?_))
        rw [end_fin _ _ _ _ _ _ _ _ (by simpa using hlt) rfl rfl, wrap64 (by omega) (by omega)]
        simp [endR, endP, endC, he1, hpid, encPart, liftT, map_erase]
  · subst he1
    rw [hw] at cof
    have cen := endB_ok q hq o yes hcp hso
    have cm := moreB_ok 1 q
    have hW : endW 1 q o yes = endWB q o yes := by simp [endW]
    rw [hW]
    generalize endWB q o yes = W at cen
    cases yes with
    | false =>
      refine ct0 progOk Tryz.func31 rfl false rfl rfl ?_
      repeat' (first | refine w_stepZ progOk rfl rfl rfl rfl rfl ?_ | refine w_step progOk rfl rfl rfl ?_ | refine w_nil ?_ | refine w_seq ?_ | refine w_reg progOk rfl rfl ?_ | (refine w_condP rfl (ht := fun h => ?_) (hf := fun h => ?_) <;> try exact prn) | refine w_skip ?_ | refine w_ret ?_ | refine w_regD (id := 18) (m := 4) progOk (by kernel_rfl) rfl rfl rfl rfl ?_ | refine s_step rfl rfl rfl rfl ?_ | refine w_call progOk rfl rfl rfl rfl rfl rfl rfl (cof) rfl rfl ?_ | refine w_callR progOk [] [(28, 66), (80, 68)] rfl rfl rfl rfl rfl cown rfl rfl rfl rfl rfl ?_ | refine w_callLend progOk rfl rfl rfl (lend_rowb rfl rfl) cf rfl rfl ?_ | refine w_indexR progOk rfl rfl rfl rfl rfl rfl rfl rfl (by simpa using hlt) rfl ?_ | refine w_loadEA progOk (e := encOpn o) rfl rfl rfl rfl rfl hk3 rfl rfl rfl ?_ | refine w_call progOk rfl rfl rfl rfl rfl rfl rfl (cen) rfl rfl ?_ | refine s_call rfl rfl rfl rfl rfl (cm) rfl rfl ?_ | refine w_callR progOk [(68, 1)] [(1, 68)] rfl rfl rfl rfl rfl cw rfl rfl rfl rfl rfl ?_ | refine w_call progOk rfl rfl rfl rfl rfl rfl rfl (cc) rfl rfl ?_ | fail)
      refine w_fin rfl (Sub.of_eq (Eq.trans (b := .tuple [frzA 66 5 (p.rows.map encRow) (frzA 68 3 ((p.opens.map encOpn).eraseIdx k) (.agg [.t (.int .i64 p.start), .t (.int .i64 (IntKind.i64.wrap (p.fin + 0))), .row 66 5 0 (p.rows.map encRow).length, .row 68 3 0 ((p.opens.map encOpn).length - 1), .t (.slice .any 4 ((clearS p.prods pid).map encProd))])), .t (.slice .any 4 (W.map encWr)), .t (.int .i64 0)]) rfl ?_))
      rw [end_fin _ _ _ _ _ _ _ _ (by simpa using hlt) rfl rfl, wrap64 (by omega) (by omega)]
      simp [endR, endP, endC, hpid, encPart, liftT, map_erase]
    | true =>
      refine ct0 progOk Tryz.func31 rfl false rfl rfl ?_
      repeat' (first | refine w_stepZ progOk rfl rfl rfl rfl rfl ?_ | refine w_step progOk rfl rfl rfl ?_ | refine w_nil ?_ | refine w_seq ?_ | refine w_reg progOk rfl rfl ?_ | (refine w_condP rfl (ht := fun h => ?_) (hf := fun h => ?_) <;> try exact prn) | refine w_block ?_ | refine w_skip ?_ | refine w_call progOk rfl rfl rfl rfl rfl rfl rfl (cof) rfl rfl ?_ | refine w_callR progOk [] [(28, 66), (80, 68)] rfl rfl rfl rfl rfl cown rfl rfl rfl rfl rfl ?_ | refine w_callLend progOk rfl rfl rfl (lend_rowb rfl rfl) cf rfl rfl ?_ | refine w_indexR progOk rfl rfl rfl rfl rfl rfl rfl rfl (by simpa using hlt) rfl ?_ | refine w_loadEA progOk (e := encOpn o) rfl rfl rfl rfl rfl hk3 rfl rfl rfl ?_ | refine w_call progOk rfl rfl rfl rfl rfl rfl rfl (cen) rfl rfl ?_ | fail)
      refine Tr.weak (E := [(3, .t (.int .i64 pid)), (10, .ref 20 0), (11, .t (.slice .any 4 (W.map encWr))), (13, .t (.iface 153 (.agg (encSpot 1 q)))), (15, .t (.int .i64 k)), (63, .t (.slice .any 5 (o.batches.map encBatch))), (64, .t (.int .i64 o.batches.length)), (65, .t (.int .i64 (0 : Nat)))]) (S := [(68, .grow 3 (p.opens.map encOpn)), (66, .grow 5 (p.rows.map encRow)), (20, .cells [.t (.int .i64 p.start), .t (.int .i64 p.fin), .row 66 5 0 (p.rows.map encRow).length, .row 68 3 0 (p.opens.map encOpn).length, .t (.slice .any 4 (p.prods.map encProd))])]) ?_ (at_of [7, 17] (sub_eq rfl rfl (sub_eq rfl rfl (sub_eq rfl rfl (sub_eq rfl rfl (sub_eq rfl rfl (sub_eq rfl rfl (sub_eq rfl (by rw [List.length_map]; rfl) (sub_eq rfl rfl sub_nil)))))))) rfl)
      refine Tr.swapS rfl ?_
      refine w_loop (ι := Nat) (fun j => j ≤ o.batches.length) (fun j => [(3, .t (.int .i64 pid)), (10, .ref 20 0), (11, .t (.slice .any 4 (W.map encWr))), (13, .t (.iface 153 (.agg (encSpot 1 q)))), (15, .t (.int .i64 k)), (63, .t (.slice .any 5 (o.batches.map encBatch))), (64, .t (.int .i64 o.batches.length)), (65, .t (.int .i64 j))]) (fun j => [(66, .grow 5 ((p.rows ++ rowsAll (o.batches.take j) p.fin).map encRow)), (68, .grow 3 (p.opens.map encOpn)), (20, .cells [.t (.int .i64 p.start), .t (.int .i64 (p.fin + recsN (o.batches.take j))), .row 66 5 0 ((p.rows ++ rowsAll (o.batches.take j) p.fin).map encRow).length, .row 68 3 0 (p.opens.map encOpn).length, .t (.slice .any 4 (p.prods.map encProd))])]) (fun j => o.batches.length - j) 0 (by simp) ?_ ?_
      · refine at_of [] (sub_eq rfl rfl (sub_eq rfl rfl (sub_eq rfl rfl (sub_eq rfl rfl (sub_eq rfl rfl (sub_eq rfl rfl (sub_eq rfl rfl (sub_eq rfl rfl sub_nil)))))))) ?_
        simp only [List.take_zero, rowsAll, recsN, List.append_nil, Int.natCast_zero, Int.add_zero]
        rfl
      rintro j hj
      by_cases hlt2 : j < o.batches.length
      · have hr : o.batches[j]? = some o.batches[j] := List.getElem?_eq_getElem hlt2
        have hmb := hbm o.batches[j] (List.getElem_mem hlt2)
        generalize o.batches[j] = bb at hr hmb
        have hts := take_succ hr
        have hrn := recsN_le (l := o.batches.take j) fun b hb => hbm b (List.mem_of_mem_take hb)
        have htl : (o.batches.take j).length ≤ 8 := by rw [List.length_take]; omega
        have her := erowsC_ok p.start (p.fin + recsN (o.batches.take j)) (p.rows ++ rowsAll (o.batches.take j) p.fin) (p.opens.map encOpn) p.prods bb hmb (by omega) (by omega) (by rw [List.length_append, rowsAll_len]; omega)
        repeat' (first | refine w_stepZ progOk rfl rfl rfl rfl rfl ?_ | refine w_step progOk rfl rfl rfl ?_ | refine w_nil ?_ | refine w_seq ?_ | refine w_reg progOk rfl rfl ?_ | (refine w_condP rfl (ht := fun h => ?_) (hf := fun h => ?_) <;> try exact prn) | refine w_block ?_ | refine w_skip ?_ | refine w_index progOk rfl rfl rfl rfl rfl rfl rfl (map_get (by assumption)) rfl ?_ | refine w_callR progOk [(66, 3), (68, 5), (20, 1)] [(3, 66), (5, 68), (1, 20)] rfl rfl rfl rfl rfl her rfl rfl rfl rfl rfl ?_ | fail)
        refine w_next (j + 1) hlt2 (by omega) [19] (sub_eq rfl rfl (sub_eq rfl rfl (sub_eq rfl rfl (sub_eq rfl rfl (sub_eq rfl rfl (sub_eq rfl rfl (sub_eq rfl rfl (sub_eq rfl (by rw [wrap64 (by omega) (by omega)]; rfl) sub_nil)))))))) ?_
        rw [hts, rowsAll_snoc, recsN_snoc, ← List.append_assoc, Int.natCast_add, ← Int.add_assoc]
        rfl
      · have hjn : j = o.batches.length := by omega
        subst hjn
        rw [List.take_length]
        have hrn := recsN_le hbm
        repeat' (first | refine w_stepZ progOk rfl rfl rfl rfl rfl ?_ | refine w_step progOk rfl rfl rfl ?_ | refine w_nil ?_ | refine w_seq ?_ | refine w_reg progOk rfl rfl ?_ | (refine w_condP rfl (ht := fun h => ?_) (hf := fun h => ?_) <;> try exact prn) | refine w_exit ?_ | refine w_ret ?_ | refine w_regD (id := 18) (m := 4) progOk (by kernel_rfl) rfl rfl rfl rfl ?_ | refine s_step rfl rfl rfl rfl ?_ | refine s_call rfl rfl rfl rfl rfl (cm) rfl rfl ?_ | refine w_callR progOk [(68, 1)] [(1, 68)] rfl rfl rfl rfl rfl cw rfl rfl rfl rfl rfl ?_ | refine w_call progOk rfl rfl rfl rfl rfl rfl rfl (cc) rfl rfl ?_ | fail)
        refine w_fin rfl (Sub.of_eq (Eq.trans (b := .tuple [frzA 66 5 ((p.rows ++ rowsAll o.batches p.fin).map encRow) (frzA 68 3 ((p.opens.map encOpn).eraseIdx k) (.agg [.t (.int .i64 p.start), .t (.int .i64 (IntKind.i64.wrap ((p.fin + recsN o.batches) + 0))), .row 66 5 0 ((p.rows ++ rowsAll o.batches p.fin).map encRow).length, .row 68 3 0 ((p.opens.map encOpn).length - 1), .t (.slice .any 4 ((clearS p.prods pid).map encProd))])), .t (.slice .any 4 (W.map encWr)), .t (.int .i64 0)]) rfl ?_))
        rw [end_fin _ _ _ _ _ _ _ _ (by simpa using hlt) rfl rfl, wrap64 (by omega) (by omega)]
        simp [endR, endP, endC, hpid, encPart, liftT, map_erase]
end Go.Proofs.YtpdmaenhenfofaaGreatDoor
