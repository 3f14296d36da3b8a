/- Contracts and laws, joined: Tn, Le. No condition beside those that each theorem names. -/
import Derived.Test.YtpdmaenhenfofaaGreatDoorZM10
import Derived.Test.YtpdmaenhenfofaaGreatDoorZJ16
import Derived.Test.YtpdmaenhenfofaaGreatDoorZJ7
import Derived.Test.YtpdmaenhenfofaaGreatDoorZJ13
import Derived.Test.YtpdmaenhenfofaaGreatDoorZTb
set_option linter.unusedVariables false
set_option linter.unusedSimpArgs false
namespace Go.Proofs.YtpdmaenhenfofaaGreatDoor
open Go.Am
attribute [local irreducible] Decidable.decide
set_option maxRecDepth 100000
set_option maxHeartbeats 1000000
structure TwiceLaw (e : Int) (l : List Act2) (Q : Nat → Part → Prop) : Prop where
  zero : Q 0 partZ
  small : ∀ {i : Nat} {p : Part}, Q i p → smallPart p
  recs : ∀ {i : Nat} {a : Act2}, l[i]? = some a → a.b.recs.length ≤ 1000000
  step : ∀ {i : Nat} {p : Part} {a : Act2}, Q i p → l[i]? = some a → Q (i + 1) (does e p a).part
  again : ∀ {i : Nat} {p : Part} {a : Act2}, Q i p → l[i]? = some a → (does e p a).e = 0 → a.kind < 2 → (does e (does e p a).part a).e = 0 ∧ (does e (does e p a).part a).part = (does e p a).part ∧ (does e (does e p a).part a).w = [] ∧ (a.kind = 0 → (does e (does e p a).part a).base = (does e p a).base)
  told : ∀ {i : Nat} {p : Part} {a : Act2}, Q i p → l[i]? = some a → (does e p a).e = 0 → a.kind = 0 → (does e p a).w ≠ [] → hasP (does e p a).part.prods a.b.pid = true ∧ ((findP (does e p a).part.prods a.b.pid).next = IntKind.i64.wrap (a.b.seq + ((a.b.recs.map encRec).length : Int))) ∧ (findP (does e p a).part.prods a.b.pid).seen ≠ []
end Go.Proofs.YtpdmaenhenfofaaGreatDoor

namespace Go.Proofs.YtpdmaenhenfofaaGreatDoor
open Go.Am
attribute [local irreducible] Decidable.decide
set_option maxRecDepth 100000
set_option maxHeartbeats 1000000
theorem one_ok {p : Part} {b : Batch} (h : POk p) (hb : mayBatch b = true) (hc : ckErr p.prods b = 0) (hi : ckIs p.prods b = false) (hr : refC p b = none) : POk (oneP p b) := by
  cases ht : b.txn with
  | true => rw [show oneP p b = txnP p b by simp [oneP, ht]]; exact txn_ok h hb hc hi ht (refC_none hr)
  | false => rw [show oneP p b = plainP p b by simp [oneP, ht]]; exact plain_ok h hb hc hi ht (refC_none hr)
theorem one_prods {p : Part} {b : Batch} (h : POk p) (hc : ckErr p.prods b = 0) (hi : ckIs p.prods b = false) : (oneP p b).prods = setS p.prods (takenP p.prods b (baseP p b)) ∧ -1 ≤ baseP p b ∧ baseP p b ≤ 1048576 := by
  have h0 := h.b0; have h1 := h.b1; have h2 := h.b2
  cases ht : b.txn with
  | true =>
    rw [show baseP p b = -1 by simp [baseP, ht]]
    refine ⟨?_, by omega, by omega⟩
    rw [← tkRes_ok hc hi (base := -1) ⟨by omega, by omega⟩]
    simp [oneP, ht, txnP]
  | false =>
    rw [show baseP p b = p.fin by simp [baseP, ht]]
    refine ⟨?_, by omega, by omega⟩
    rw [← tkRes_ok hc hi (base := p.fin) ⟨by omega, by omega⟩]
    simp [oneP, ht, plainP]
/- an end keeps a part whole -/
theorem erase_mem {α : Type} {f : α → Int} : ∀ {l : List α} {k : Nat} {o x : α}, Srt f l → l[k]? = some o → x ∈ l.eraseIdx k → x ∈ l ∧ f x ≠ f o
  | [], k, o, x, _, h, _ => by simp at h
  | a :: r, 0, o, x, hs, h, hx => by
    simp at h; subst h
    simp only [List.eraseIdx_cons_zero] at hx
    have := (List.pairwise_cons.1 hs).1 x hx
    exact ⟨List.mem_cons_of_mem _ hx, by omega⟩
  | a :: r, k + 1, o, x, hs, h, hx => by
    simp at h
    simp only [List.eraseIdx_cons_succ] at hx
    have hs' := List.pairwise_cons.1 hs
    rcases List.mem_cons.1 hx with rfl | hx
    · have := hs'.1 o (List.mem_of_getElem? h)
      exact ⟨by simp, by omega⟩
    · obtain ⟨h1, h2⟩ := erase_mem hs'.2 h hx
      exact ⟨List.mem_cons_of_mem _ h1, h2⟩
theorem srt_erase {α : Type} {f : α → Int} {l : List α} {k : Nat} (h : Srt f l) : Srt f (l.eraseIdx k) := List.Pairwise.sublist (List.eraseIdx_sublist ..) h
theorem clear_eq {l : List Prod} (hl : mayPs l = true) (pid : Int) : clearS l pid = if hasP l pid = true then setS l { findP l pid with seen := [] } else l := by
  have hs := (mayPs_iff.1 hl).1
  cases hh : hasP l pid with
  | false =>
    have : l.findIdx? (fun x => decide (x.pid = pid)) = none := by rw [List.findIdx?_eq_none_iff]; intro x hx; simpa using List.any_eq_false.1 hh x hx
    simp [clearS, this]
  | true =>
    have hh2 : l.any (fun p => decide (p.pid = pid)) = true := hh
    obtain ⟨i, x, hx, hi, hfx, hpx⟩ := fst_get hh2
    have hfp : findP l pid = x := by simp [findP, hfx]
    have hlt := (List.getElem?_eq_some_iff.1 hx).1
    have hpid : x.pid = pid := by simpa using hpx
    have hfi : l.findIdx? (fun x => decide (x.pid = pid)) = some i := by
      unfold fstI at hi
      cases hf : l.findIdx? (fun x => decide (x.pid = pid)) with
      | none => rw [hf] at hi; simp at hi; omega
      | some j => rw [hf] at hi; simp at hi; exact congrArg some (by omega)
    rw [if_pos rfl, hfp, setS_ins hs]
    simp only [clearS, hfi, hx, putS]
    have hsp : l = l.take i ++ x :: l.drop (i + 1) := by rw [← drop_cons hx, List.take_append_drop]
    have hs2 : Srt Prod.pid (l.take i ++ x :: l.drop (i + 1)) := hsp ▸ hs
    have h1 := List.pairwise_append.1 hs2
    have h3 := (List.pairwise_cons.1 h1.2.1).1
    refine srt_ext ?_ (srt_insF hs) fun z => ?_
    · unfold Srt
      rw [List.pairwise_append, List.pairwise_cons]
      exact ⟨h1.1, ⟨fun y hy => h3 y hy, (List.pairwise_cons.1 h1.2.1).2⟩, fun a ha b hb => by
        rcases List.mem_cons.1 hb with rfl | hb
        · exact h1.2.2 a ha x (by simp)
        · exact h1.2.2 a ha b (by simp [hb])⟩
    · rw [mem_insF]
      simp only [List.mem_append, List.mem_cons]
      constructor
      · rintro (h | rfl | h)
        · exact .inr ⟨List.mem_of_mem_take h, by have := h1.2.2 z h x (by simp); show z.pid ≠ x.pid; omega⟩
        · exact .inl rfl
        · exact .inr ⟨List.mem_of_mem_drop h, by have := h3 z h; show z.pid ≠ x.pid; omega⟩
      · rintro (rfl | ⟨h, hne⟩)
        · exact .inr (.inl rfl)
        · rw [hsp] at h
          simp only [List.mem_append, List.mem_cons] at h
          rcases h with h | rfl | h
          · exact .inl h
          · exact absurd rfl hne
          · exact .inr (.inr h)
theorem clear_may {l : List Prod} (hl : mayPs l = true) (pid : Int) : mayPs (clearS l pid) = true := by
  rw [clear_eq hl]
  split
  · rename_i hh
    refine mayPs_set hl ?_
    have hk := (mayPs_iff.1 hl).2 _ (hasP_get hh).1
    have hb := known_bounds hk
    have : boundsP { findP l pid with seen := [] } := by unfold boundsP at hb ⊢; simp only [List.length_nil]; omega
    simp [knownP, this, chainOk]
  · exact hl
theorem clear_other {l : List Prod} (hl : mayPs l = true) {pid k : Int} (hne : k ≠ pid) : hasP (clearS l pid) k = hasP l k ∧ findP (clearS l pid) k = findP l k := by
  rw [clear_eq hl]
  split
  · rename_i hh
    have h2 := (hasP_get hh).2
    have e : ¬ ({ findP l pid with seen := [] } : Prod).pid = k := fun e => hne (by rw [← e]; exact h2)
    rw [hasP_set hl, findP_set hl, if_neg e]
    simp [e]
  · exact ⟨rfl, rfl⟩
theorem rowsAll_at : ∀ {l : List Batch} {f : Int}, 0 ≤ f → (∀ b ∈ l, mayBatch b = true) → Srt Row.offset (rowsAll l f) ∧ ∀ r ∈ rowsAll l f, f ≤ r.offset ∧ r.offset < f + recsN l ∧ rowBad r = false
  | [], f, _, _ => ⟨List.Pairwise.nil, fun r h => by simp [rowsAll] at h⟩
  | b :: t, f, hf, hb => by
    have hbm := hb b (by simp)
    obtain ⟨h1, h2⟩ := rowsAll_at (l := t) (f := f + b.recs.length) (by omega) fun x hx => hb x (by simp [hx])
    have h3 : ∀ r ∈ rowsOf b f, f ≤ r.offset ∧ r.offset < f + b.recs.length := fun r hr => by
      obtain ⟨i, z, hz, rfl⟩ := rows_get hr
      have hlt := (List.getElem?_eq_some_iff.1 hz).1
      simp only [rowOf]; rw [if_neg (by omega)]; omega
    refine ⟨?_, fun r hr => ?_⟩
    · simp only [rowsAll, Srt]
      rw [List.pairwise_append]
      exact ⟨rows_srt hf, h1, fun x hx y hy => by have := h3 x hx; have := h2 y hy; omega⟩
    · simp only [rowsAll, recsN] at hr ⊢
      rcases List.mem_append.1 hr with hr | hr
      · have := h3 r hr; exact ⟨by omega, by omega, rows_ok hbm hr⟩
      · obtain ⟨k1, k2, k3⟩ := h2 r hr; exact ⟨by omega, by omega, k3⟩
theorem endP_ok {e : Int} {p : Part} {k : Nat} {o : Opn} {yes : Bool} (h : POk p) (hk : p.opens[k]? = some o) (hf : p.fin + recsN o.batches + 1 ≤ 1048576) : POk (endP e p k o yes) := by
  have h0 := h.b0; have h1 := h.b1; have h2 := h.b2
  have hcp := (h.ook o (List.mem_of_getElem? hk)).1
  obtain ⟨k1, k2⟩ := rowsAll_at (l := o.batches) (f := p.fin) (by omega) fun b hb => (copyOk_all hcp b hb).1
  have hfin : p.fin ≤ (endP e p k o yes).fin ∧ (endP e p k o yes).fin ≤ p.fin + recsN o.batches + 1 ∧ (yes = true → p.fin + recsN o.batches ≤ (endP e p k o yes).fin) := by
    have hd : (0 : Int) ≤ (if e = 0 then 1 else 0) ∧ (if e = 0 then (1 : Int) else 0) ≤ 1 := by split <;> omega
    cases yes with
    | false =>
      simp only [endP, endC, Bool.false_eq_true, if_false]
      exact ⟨by omega, by omega, fun h => by cases h⟩
    | true =>
      simp only [endP, endC, if_true]
      exact ⟨by omega, by omega, fun _ => by omega⟩
  have hrows : ∀ r ∈ (endP e p k o yes).rows, r ∈ p.rows ∨ (yes = true ∧ r ∈ rowsAll o.batches p.fin) := fun r hr => by
    cases yes with
    | false => simp only [endP, endC, Bool.false_eq_true, if_false] at hr; exact .inl hr
    | true =>
      simp only [endP, endC, if_true] at hr
      rcases List.mem_append.1 hr with hr | hr
      · exact .inl hr
      · exact .inr ⟨rfl, hr⟩
  obtain ⟨f1, f2, f3⟩ := hfin
  refine ⟨h0, by show p.start ≤ (endP e p k o yes).fin; omega, by show (endP e p k o yes).fin ≤ 1048576; omega, ?_, fun r hr => ?_, srt_erase h.osrt, fun r hr => ?_, clear_may h.may _, fun x hx => ?_⟩
  · cases yes with
    | false => simp only [endP, endC, Bool.false_eq_true, if_false]; exact h.srt
    | true =>
      simp only [endP, endC, if_true, Srt]
      rw [List.pairwise_append]
      exact ⟨h.srt, k1, fun x hx y hy => by have := h.rin x hx; have := k2 y hy; omega⟩
  · show p.start ≤ r.offset ∧ r.offset < (endP e p k o yes).fin
    rcases hrows r hr with hr | ⟨hy, hr⟩
    · have := h.rin r hr; omega
    · have := k2 r hr; have := f3 hy; omega
  · rcases hrows r hr with hr | ⟨_, hr⟩
    · exact h.rok r hr
    · exact (k2 r hr).2.2
  · obtain ⟨q1, q2⟩ := erase_mem h.osrt hk hx
    obtain ⟨c1, c2⟩ := clear_other h.may (pid := o.pid) (k := x.pid) q2
    have := h.ook x q1
    unfold OpenOk at this ⊢
    show _ ∧ hasP (clearS p.prods o.pid) x.pid = true ∧ (findP (clearS p.prods o.pid) x.pid).epoch = _ ∧ (findP (clearS p.prods o.pid) x.pid).next = _
    rw [c1, c2]; exact this
theorem end_ok {e q : Int} {p : Part} {pid : Int} {yes : Bool} (h : (End e q p pid yes).e = 0) : badOf e q p = false ∧ ((p.opens.find? (fun o => decide (o.pid = pid)) = none ∧ End e q p pid yes = ⟨p, [], 0⟩) ∨ ∃ (k : Nat) (o : Opn), p.opens[k]? = some o ∧ o.pid = pid ∧ End e q p pid yes = ⟨endP e p k o yes, endW e q o yes, 0⟩) := by
  unfold End at h
  split at h
  · simp at h
  · rename_i hn
    have h1 : badOf e q p = false := by
      cases hb : badOf e q p with
      | false => rfl
      | true => exact absurd hb hn
    refine ⟨h1, ?_⟩
    cases hf : p.opens.find? (fun o => decide (o.pid = pid)) with
    | none => exact .inl ⟨rfl, by simp [End, h1, hf]⟩
    | some o =>
      obtain ⟨k, hk, hidx, _⟩ := find_idx hf
      have hpid : o.pid = pid := by simpa using List.find?_some hf
      exact .inr ⟨k, o, hk, hpid, by simp [End, h1, hf, hidx]⟩
structure TQ (i : Nat) (p : Part) : Prop where
  small : smallPart p
  fin : p.fin ≤ 40 * i
  rows : p.rows.length ≤ 40 * i
  opens : p.opens.length ≤ i
theorem TQ.up {i : Nat} {p : Part} (h : TQ i p) : TQ (i + 1) p := ⟨h.small, by have := h.fin; omega, by have := h.rows; omega, by have := h.opens; omega⟩
theorem TQ.one {i : Nat} {p : Part} {b : Batch} (h : TQ i p) (hi : i ≤ 1000) (hp : POk p) (hb : mayBatch b = true) (hok : POk (oneP p b)) : TQ (i + 1) (oneP p b) := by
  have hm := may_bounds hb
  have h1 := h.fin; have h2 := h.rows; have h3 := h.opens
  have hlr : (rowsOf b p.fin).length = b.recs.length := rows_len
  have k1 : (oneP p b).rows.length ≤ p.rows.length + 4 := by
    cases ht : b.txn with
    | true => simp [oneP, ht, txnP]
    | false => simp [oneP, ht, plainP]; omega
  have k2 : (oneP p b).opens.length ≤ p.opens.length + 1 := by
    cases ht : b.txn with
    | true => simp only [oneP, ht, if_true, txnP]; exact insF_le
    | false => simp [oneP, ht, plainP]
  have k3 : (oneP p b).fin ≤ p.fin + 4 := by
    cases ht : b.txn with
    | true => simp [oneP, ht, txnP]; omega
    | false => simp [oneP, ht, plainP]; omega
  exact ⟨pOk_small hok (by omega) (by omega), by omega, by omega, by omega⟩
theorem TQ.end {i : Nat} {e : Int} {p : Part} {k : Nat} {o : Opn} {yes : Bool} (h : TQ i p) (hi : i ≤ 1000) (hp : POk p) (hk : p.opens[k]? = some o) : TQ (i + 1) (endP e p k o yes) := by
  have h1 := h.fin; have h2 := h.rows; have h3 := h.opens
  have hcp := (hp.ook o (List.mem_of_getElem? hk)).1
  have hl := copyOk_len hcp
  have hr := recsN_le (l := o.batches) fun b hb => (copyOk_all hcp b hb).1
  have hok := endP_ok (e := e) (yes := yes) hp hk (by omega)
  have hd : (0 : Int) ≤ (if e = 0 then 1 else 0) ∧ (if e = 0 then (1 : Int) else 0) ≤ 1 := by split <;> omega
  have k1 : (endP e p k o yes).rows.length ≤ p.rows.length + 32 := by
    cases yes with
    | false => simp only [endP, endC, Bool.false_eq_true, if_false]; omega
    | true => simp only [endP, endC, if_true, List.length_append, rowsAll_len]; omega
  have k2 : (endP e p k o yes).opens.length ≤ p.opens.length := by
    simp only [endP]; rw [List.length_eraseIdx]; split <;> omega
  have k3 : (endP e p k o yes).fin ≤ p.fin + 33 := by
    cases yes with
    | false => simp only [endP, endC, Bool.false_eq_true, if_false]; omega
    | true => simp only [endP, endC, if_true]; omega
  exact ⟨pOk_small hok (by omega) (by omega), by omega, by omega, by omega⟩
theorem TQ.cut {i : Nat} {p : Part} {n : Int} (h : TQ i p) : TQ (i + 1) (cutP p n) := by
  obtain ⟨s1, s2, s3, s4⟩ := h.small
  have hl : (p.rows.filter (fun r => decide (n ≤ r.offset))).length ≤ p.rows.length := List.length_filter_le ..
  have h1 := h.fin; have h2 := h.rows; have h3 := h.opens
  exact ⟨⟨by simp only [cutP]; omega, s2, s3, s4⟩, by simp only [cutP]; omega, by simp only [cutP]; omega, by simp only [cutP]; omega⟩
theorem does_step {e : Int} {i : Nat} {p : Part} {a : Act2} (h : TQ i p) (hi : i ≤ 1000) : TQ (i + 1) (does e p a).part := by
  unfold does
  split
  · split
    · exact h.up
    · rename_i hz
      obtain ⟨hbad, hm, hc, hA⟩ := prod_ok (Classical.not_not.1 hz)
      have hp := partOk_iff.1 (of_good hbad).2.2.2
      rcases hA with ⟨_, hP⟩ | ⟨hi2, hrc, hP⟩
      · rw [hP]; exact h.up
      · rw [hP]; exact h.one hi hp hm (one_ok hp hm hc hi2 hrc)
  · split
    · split
      · exact h.up
      · rename_i hz
        obtain ⟨hbad, hA⟩ := end_ok (Classical.not_not.1 hz)
        have hp := partOk_iff.1 (of_good hbad).2.2.2
        rcases hA with ⟨_, hP⟩ | ⟨k, o, hk, _, hP⟩
        · rw [hP]; exact h.up
        · rw [hP]; exact h.end hi hp hk
    · split
      · split
        · exact h.up
        · rename_i hz
          have hz := Classical.not_not.1 hz
          unfold Cut at hz ⊢
          split
          · rename_i hb; rw [if_pos hb] at hz; simp at hz
          · rename_i hb
            rw [if_neg hb] at hz
            split
            · rename_i hin; rw [if_pos hin] at hz; simp at hz
            · exact h.cut
      · exact h.up
end Go.Proofs.YtpdmaenhenfofaaGreatDoor
