/- Contracts and laws, joined: Tn, Le, To. No condition beside those that each theorem names. -/
import Derived.Test.YtpdmaenhenfofaaGreatDoorZM10
import Derived.Test.YtpdmaenhenfofaaGreatDoorZJ16
import Derived.Test.YtpdmaenhenfofaaGreatDoorZJ7
import Derived.Test.YtpdmaenhenfofaaGreatDoorZJ13
import Derived.Test.YtpdmaenhenfofaaGreatDoorZTb
set_option linter.unusedVariables false
set_option linter.unusedSimpArgs false
namespace Go.Proofs.YtpdmaenhenfofaaGreatDoor
open Go.Am
attribute [local irreducible] Decidable.decide
set_option maxRecDepth 100000
set_option maxHeartbeats 1000000
structure TwiceLaw (e : Int) (l : List Act2) (Q : Nat → Part → Prop) : Prop where
  zero : Q 0 partZ
  small : ∀ {i : Nat} {p : Part}, Q i p → smallPart p
  recs : ∀ {i : Nat} {a : Act2}, l[i]? = some a → a.b.recs.length ≤ 1000000
  step : ∀ {i : Nat} {p : Part} {a : Act2}, Q i p → l[i]? = some a → Q (i + 1) (does e p a).part
  again : ∀ {i : Nat} {p : Part} {a : Act2}, Q i p → l[i]? = some a → (does e p a).e = 0 → a.kind < 2 → (does e (does e p a).part a).e = 0 ∧ (does e (does e p a).part a).part = (does e p a).part ∧ (does e (does e p a).part a).w = [] ∧ (a.kind = 0 → (does e (does e p a).part a).base = (does e p a).base)
  told : ∀ {i : Nat} {p : Part} {a : Act2}, Q i p → l[i]? = some a → (does e p a).e = 0 → a.kind = 0 → (does e p a).w ≠ [] → hasP (does e p a).part.prods a.b.pid = true ∧ ((findP (does e p a).part.prods a.b.pid).next = IntKind.i64.wrap (a.b.seq + ((a.b.recs.map encRec).length : Int))) ∧ (findP (does e p a).part.prods a.b.pid).seen ≠ []
theorem twice_walk (e : Int) (l : List Act2) (Q : Nat → Part → Prop) (he : e = 0 ∨ e = 1) (hg : greatAs l = false) (hL : TwiceLaw e l Q) : Ct Tryz.prog 7 [.t (.int .i8 e), .t (.slice .any 9 (l.map encAct2))] [] (.t (.bool true)) [] := by
  have cg := great17_ok l
  rw [hg] at cg
  have hlm : (l.map encAct2).length = l.length := List.length_map ..
  have hle : (l.length : Int) ≤ 60 := by simp only [greatAs, Bool.or_eq_false_iff, decide_eq_false_iff_not] at hg; omega
  refine ct0 progOk Tryz.func7 rfl false rfl rfl ?_
  repeat' (first | refine w_step progOk rfl rfl rfl ?_ | refine w_nil ?_ | refine w_seq ?_ | refine w_reg progOk rfl rfl ?_ | (refine w_gTP rfl rfl rfl rfl rfl (ht := fun h => ?_) (hf := fun h => ?_) <;> try exact prn) | (refine w_gFP rfl rfl rfl rfl rfl (ht := fun h => ?_) (hf := fun h => ?_) <;> try exact prn) | (refine w_condP rfl (ht := fun h => ?_) (hf := fun h => ?_) <;> try exact prn) | refine w_block ?_ | refine w_skip ?_ | refine w_call progOk rfl rfl rfl rfl rfl rfl rfl (cg) rfl rfl ?_ | fail)
  all_goals try (exfalso; simp_all; done)
  all_goals try (exfalso; omega)
  all_goals refine Tr.weakC (cs' := liftT (encPart partZ)) 10 rfl ⟨Sub.refl _, Sub.refl _, sub_slNil, sub_slNil, sub_slNil, trivial⟩ ?_
  all_goals refine w_loop (ι := Nat × Part) (fun x => x.1 ≤ l.length ∧ Q x.1 x.2) (fun x => [(0, .t (.int .i8 e)), (5, .ref 10 0), (29, .t (.slice .any 9 (l.map encAct2))), (30, .t (.int .i64 ((l.map encAct2).length : Int))), (31, .t (.int .i64 x.1))]) (fun x => [(10, .cells (liftT (encPart x.2)))]) (fun x => l.length - x.1) (0, partZ) ⟨by simp, hL.zero⟩ ?_ ?_
  all_goals first
    | exact at_of [] (sub_eq rfl rfl (sub_eq rfl rfl (sub_eq rfl rfl (sub_eq rfl rfl (sub_eq rfl rfl sub_nil))))) rfl
    | skip
  all_goals rintro ⟨i, p⟩ ⟨hi, hQ⟩
  all_goals simp only at hi hQ
  all_goals (
    by_cases hlt : i < l.length
    · have hr : l[i]? = some l[i] := List.getElem?_eq_getElem hlt
      generalize l[i] = a at hr
      have hsm := hL.small hQ
      have hst := hL.step hQ hr
      have hsm2 := hL.small hst
      have cd := does_ok e p a hsm (hL.recs hr)
      have cd2 := does_ok e (does e p a).part a hsm2 (hL.recs hr)
      by_cases hc : (does e p a).e = 0 ∧ a.kind < 2
      · obtain ⟨a1, a2, a3, a4⟩ := hL.again hQ hr hc.1 hc.2
        have tl := hL.told hQ hr hc.1
        have csm := samePart_ok (does e p a).part hsm2
        generalize hr2 : does e (does e p a).part a = r2 at cd2 a1 a2 a3 a4
        generalize does e p a = r at *
        rcases r2 with ⟨x1, x2, x3, x4⟩
        simp only at a1 a2 a3 a4
        subst a1 a2 a3
        unfold PO.av at cd cd2
        have hps := hsm2.2.2.2.1
        have hz : ((List.map encWr []).length : Int) = 0 := rfl
        have hb : a.kind ≠ 0 ∨ x2 = r.base := by by_cases h : a.kind = 0; exact .inr (a4 h); exact .inl h
        have cf := find10_ok r.part.prods a.b.pid hps
        by_cases h0 : a.kind = 0 ∧ r.w ≠ []
        · obtain ⟨u1, u2, u3⟩ := tl h0.1 h0.2
          rw [u1] at cf
          have hc1 := hc.1
          have hc0 := h0.1
          have hwl : 0 < (r.w.map encWr).length := by rw [List.length_map]; exact List.length_pos_iff.2 h0.2
          have hsl : 0 < ((findP r.part.prods a.b.pid).seen.map encSeen).length := by rw [List.length_map]; exact List.length_pos_iff.2 u3
          repeat' (first | refine w_stepZ progOk rfl rfl rfl rfl rfl ?_ | refine w_step progOk rfl rfl rfl ?_ | refine w_nil ?_ | refine w_seq ?_ | refine w_reg progOk rfl rfl ?_ | (refine w_gTP rfl rfl rfl rfl rfl (ht := fun h => ?_) (hf := fun h => ?_) <;> try exact prn) | (refine w_gFP rfl rfl rfl rfl rfl (ht := fun h => ?_) (hf := fun h => ?_) <;> try exact prn) | (refine w_condP rfl (ht := fun h => ?_) (hf := fun h => ?_) <;> try exact prn) | refine w_block ?_ | refine w_skip ?_ | refine w_index progOk rfl rfl rfl rfl rfl rfl rfl (map_get (by assumption)) rfl ?_ | refine w_call progOk rfl rfl rfl rfl rfl rfl rfl (cd) rfl rfl ?_ | refine w_call progOk rfl rfl rfl rfl rfl rfl rfl (cd2) rfl rfl ?_ | refine w_call progOk rfl rfl rfl rfl rfl rfl rfl (csm) rfl rfl ?_ | refine w_call progOk rfl rfl rfl rfl rfl rfl rfl (cf) rfl rfl ?_ | fail)
          all_goals refine w_next (i + 1, r.part) ⟨hlt, hst⟩ (by simp; omega) [7, 8, 12, 16] (sub_eq rfl rfl (sub_eq rfl rfl (sub_eq rfl rfl (sub_eq rfl rfl (sub_eq rfl (by rw [wrap64 (by omega) (by omega)]; rfl) sub_nil))))) rfl
        · have hc1 := hc.1
          have hn : a.kind ≠ 0 ∨ (r.w.map encWr).length = 0 := by
            by_cases h : a.kind = 0
            · by_cases hw : r.w = []
              · rw [hw]; exact .inr rfl
              · exact absurd ⟨h, hw⟩ h0
            · exact .inl h
          have hc2 := hc.2
          repeat' (first | refine w_stepZ progOk rfl rfl rfl rfl rfl ?_ | refine w_step progOk rfl rfl rfl ?_ | refine w_nil ?_ | refine w_seq ?_ | refine w_reg progOk rfl rfl ?_ | (refine w_gTP rfl rfl rfl rfl rfl (ht := fun h => ?_) (hf := fun h => ?_) <;> try exact prn) | (refine w_gFP rfl rfl rfl rfl rfl (ht := fun h => ?_) (hf := fun h => ?_) <;> try exact prn) | (refine w_condP rfl (ht := fun h => ?_) (hf := fun h => ?_) <;> try exact prn) | refine w_block ?_ | refine w_skip ?_ | refine w_index progOk rfl rfl rfl rfl rfl rfl rfl (map_get (by assumption)) rfl ?_ | refine w_call progOk rfl rfl rfl rfl rfl rfl rfl (cd) rfl rfl ?_ | refine w_call progOk rfl rfl rfl rfl rfl rfl rfl (cd2) rfl rfl ?_ | refine w_call progOk rfl rfl rfl rfl rfl rfl rfl (csm) rfl rfl ?_ | fail)
          all_goals refine w_next (i + 1, r.part) ⟨hlt, hst⟩ (by simp; omega) [7, 8, 12] (sub_eq rfl rfl (sub_eq rfl rfl (sub_eq rfl rfl (sub_eq rfl rfl (sub_eq rfl (by rw [wrap64 (by omega) (by omega)]; rfl) sub_nil))))) rfl
      · generalize does e p a = r at *
        unfold PO.av at cd
        repeat' (first | refine w_stepZ progOk rfl rfl rfl rfl rfl ?_ | refine w_step progOk rfl rfl rfl ?_ | refine w_nil ?_ | refine w_seq ?_ | refine w_reg progOk rfl rfl ?_ | (refine w_gTP rfl rfl rfl rfl rfl (ht := fun h => ?_) (hf := fun h => ?_) <;> try exact prn) | (refine w_condP rfl (ht := fun h => ?_) (hf := fun h => ?_) <;> try exact prn) | refine w_block ?_ | refine w_skip ?_ | refine w_index progOk rfl rfl rfl rfl rfl rfl rfl (map_get (by assumption)) rfl ?_ | refine w_call progOk rfl rfl rfl rfl rfl rfl rfl (cd) rfl rfl ?_ | fail)
        all_goals try (exfalso; omega)
        all_goals refine w_next (i + 1, r.part) ⟨hlt, hst⟩ (by simp; omega) [7, 8] (sub_eq rfl rfl (sub_eq rfl rfl (sub_eq rfl rfl (sub_eq rfl rfl (sub_eq rfl (by rw [wrap64 (by omega) (by omega)]; rfl) sub_nil))))) rfl
    · repeat' (first | refine w_step progOk rfl rfl rfl ?_ | refine w_nil ?_ | refine w_seq ?_ | refine w_reg progOk rfl rfl ?_ | (refine w_condP rfl (ht := fun h => ?_) (hf := fun h => ?_) <;> try exact prn) | refine w_exit ?_ | refine w_ret ?_ | refine w_call progOk rfl rfl rfl rfl rfl rfl rfl (wakes_ok) rfl rfl ?_ | fail)
      all_goals exact w_fin rfl (Sub.of_eq rfl))
end Go.Proofs.YtpdmaenhenfofaaGreatDoor

namespace Go.Proofs.YtpdmaenhenfofaaGreatDoor
open Go.Am
attribute [local irreducible] Decidable.decide
set_option maxRecDepth 100000
set_option maxHeartbeats 1000000
theorem kept_no {l : List Prod} {b : Batch} (hl : mayPs l = true) (hb : mayBatch b = true) (hc : ckErr l b = 0) (hi : ckIs l b = false) : ∀ s ∈ keptS l b, sameS b s = false := by
  obtain ⟨h1, h2⟩ := ck_of hl hb
  rw [h1] at hc; rw [h2] at hi
  intro s hs
  unfold keptS at hs
  split at hs
  · simp at hs
  · rename_i he
    have he : (findP l b.pid).epoch = b.epoch := Classical.not_not.1 he
    cases hh : hasP l b.pid with
    | false => rw [hasP_not hh] at hs; simp [prodZ] at hs
    | true =>
      have hcur : curP l b = findP l b.pid := by simp [curP, hh, he]
      have hf : fenced l b = false := by simp [fenced, hh, he]
      have ha : (curP l b).seen.any (sameS b) = false := by simpa [chkIs, hf] using hi
      rw [hcur] at ha
      simpa using List.any_eq_false.1 ha s hs
theorem again_prods {l : List Prod} {b : Batch} {base : Int} (hl : mayPs l = true) (hb : mayBatch b = true) (hc : ckErr l b = 0) (hi : ckIs l b = false) (hbase : -1 ≤ base ∧ base ≤ 1048576) : ckErr (setS l (takenP l b base)) b = 0 ∧ ckIs (setS l (takenP l b base)) b = true ∧ ckBase (setS l (takenP l b base)) b = base := by
  have hno := kept_no hl hb hc hi
  have hl' := mayPs_set hl (known_taken hl hb hc hi hbase)
  have hf := findP_set (p := takenP l b base) hl b.pid
  rw [if_pos (show (takenP l b base).pid = b.pid from rfl)] at hf
  have hh : hasP (setS l (takenP l b base)) b.pid = true := by rw [hasP_set hl]; simp [takenP]
  have e1 : (takenP l b base).epoch = b.epoch := rfl
  have hcur : curP (setS l (takenP l b base)) b = takenP l b base := by simp [curP, hh, hf, e1]
  have hfe : fenced (setS l (takenP l b base)) b = false := by simp [fenced, hf, e1]
  have hfd : (takenP l b base).seen.find? (sameS b) = some ⟨b.seq, b.recs.length, base⟩ := by
    simp only [takenP, winS]
    rw [List.drop_append_of_le_length (by simp), List.find?_append]
    rw [List.find?_eq_none.2 (fun s hs => by rw [hno s (List.mem_of_mem_drop hs)]; simp)]
    simp [sameS]
  have hany : (takenP l b base).seen.any (sameS b) = true := List.any_eq_true.2 ⟨_, List.mem_of_find?_eq_some hfd, List.find?_some hfd⟩
  obtain ⟨h1, h2⟩ := ck_of hl' hb
  refine ⟨?_, ?_, ?_⟩
  · rw [h1]; simp [chkErr, hfe, hcur, hany]
  · rw [h2]; simp [chkIs, hfe, hcur, hany]
  · simp [ckBase, ckOk, hl', hb, chkBase, hcur, hany, hfd, hfe]
theorem bad_swap {e q : Int} {p p' : Part} (h : badOf e q p = false) (hp : POk p') : badOf e q p' = false := by
  have h2 := partOk_iff.2 hp
  simp only [badOf, Bool.or_eq_false_iff, Bool.not_eq_false'] at h ⊢
  exact ⟨h.1, h2, h.2.2⟩
theorem one_ok {p : Part} {b : Batch} (h : POk p) (hb : mayBatch b = true) (hc : ckErr p.prods b = 0) (hi : ckIs p.prods b = false) (hr : refC p b = none) : POk (oneP p b) := by
  cases ht : b.txn with
  | true => rw [show oneP p b = txnP p b by simp [oneP, ht]]; exact txn_ok h hb hc hi ht (refC_none hr)
  | false => rw [show oneP p b = plainP p b by simp [oneP, ht]]; exact plain_ok h hb hc hi ht (refC_none hr)
theorem one_prods {p : Part} {b : Batch} (h : POk p) (hc : ckErr p.prods b = 0) (hi : ckIs p.prods b = false) : (oneP p b).prods = setS p.prods (takenP p.prods b (baseP p b)) ∧ -1 ≤ baseP p b ∧ baseP p b ≤ 1048576 := by
  have h0 := h.b0; have h1 := h.b1; have h2 := h.b2
  cases ht : b.txn with
  | true =>
    rw [show baseP p b = -1 by simp [baseP, ht]]
    refine ⟨?_, by omega, by omega⟩
    rw [← tkRes_ok hc hi (base := -1) ⟨by omega, by omega⟩]
    simp [oneP, ht, txnP]
  | false =>
    rw [show baseP p b = p.fin by simp [baseP, ht]]
    refine ⟨?_, by omega, by omega⟩
    rw [← tkRes_ok hc hi (base := p.fin) ⟨by omega, by omega⟩]
    simp [oneP, ht, plainP]
theorem prod_again {e q : Int} {p : Part} {b : Batch} (h : (Produce e q p b).e = 0) : Produce e q (Produce e q p b).part b = ⟨(Produce e q p b).part, (Produce e q p b).base, [], 0⟩ := by
  obtain ⟨hbad, hm, hc, hA⟩ := prod_ok h
  have hp := partOk_iff.1 (of_good hbad).2.2.2
  rcases hA with ⟨hi, hP⟩ | ⟨hi, hrc, hP⟩
  · rw [hP]; simp only
    rw [hP]
  · rw [hP]; simp only
    obtain ⟨q1, q2⟩ := one_prods hp hc hi
    obtain ⟨k1, k2, k3⟩ := again_prods hp.may hm hc hi q2
    rw [prod_of (bad_swap hbad (one_ok hp hm hc hi hrc)) hm (by rw [q1]; exact k1), q1, if_pos k2, k3]
theorem prod_told {e q : Int} {p : Part} {b : Batch} (h : (Produce e q p b).e = 0) (hw : (Produce e q p b).w ≠ []) : hasP (Produce e q p b).part.prods b.pid = true ∧ ((findP (Produce e q p b).part.prods b.pid).next = IntKind.i64.wrap (b.seq + ((b.recs.map encRec).length : Int))) ∧ (findP (Produce e q p b).part.prods b.pid).seen ≠ [] := by
  obtain ⟨hbad, hm, hc, hA⟩ := prod_ok h
  have hp := partOk_iff.1 (of_good hbad).2.2.2
  have hmb := may_bounds hm
  rcases hA with ⟨hi, hP⟩ | ⟨hi, hrc, hP⟩
  · rw [hP] at hw; exact absurd rfl hw
  · rw [hP]; simp only
    obtain ⟨q1, q2⟩ := one_prods hp hc hi
    have hf := findP_set (p := takenP p.prods b (baseP p b)) hp.may b.pid
    rw [if_pos (show (takenP p.prods b (baseP p b)).pid = b.pid from rfl)] at hf
    rw [q1, hf, hasP_set hp.may]
    refine ⟨by simp [takenP], ?_, ?_⟩
    · rw [List.length_map, wrap64 (by omega) (by omega)]; rfl
    · intro he
      have := congrArg List.length he
      simp [takenP, winS] at this
      omega
/- an end keeps a part whole -/
theorem erase_mem {α : Type} {f : α → Int} : ∀ {l : List α} {k : Nat} {o x : α}, Srt f l → l[k]? = some o → x ∈ l.eraseIdx k → x ∈ l ∧ f x ≠ f o
  | [], k, o, x, _, h, _ => by simp at h
  | a :: r, 0, o, x, hs, h, hx => by
    simp at h; subst h
    simp only [List.eraseIdx_cons_zero] at hx
    have := (List.pairwise_cons.1 hs).1 x hx
    exact ⟨List.mem_cons_of_mem _ hx, by omega⟩
  | a :: r, k + 1, o, x, hs, h, hx => by
    simp at h
    simp only [List.eraseIdx_cons_succ] at hx
    have hs' := List.pairwise_cons.1 hs
    rcases List.mem_cons.1 hx with rfl | hx
    · have := hs'.1 o (List.mem_of_getElem? h)
      exact ⟨by simp, by omega⟩
    · obtain ⟨h1, h2⟩ := erase_mem hs'.2 h hx
      exact ⟨List.mem_cons_of_mem _ h1, h2⟩
theorem srt_erase {α : Type} {f : α → Int} {l : List α} {k : Nat} (h : Srt f l) : Srt f (l.eraseIdx k) := List.Pairwise.sublist (List.eraseIdx_sublist ..) h
theorem clear_eq {l : List Prod} (hl : mayPs l = true) (pid : Int) : clearS l pid = if hasP l pid = true then setS l { findP l pid with seen := [] } else l := by
  have hs := (mayPs_iff.1 hl).1
  cases hh : hasP l pid with
  | false =>
    have : l.findIdx? (fun x => decide (x.pid = pid)) = none := by rw [List.findIdx?_eq_none_iff]; intro x hx; simpa using List.any_eq_false.1 hh x hx
    simp [clearS, this]
  | true =>
    have hh2 : l.any (fun p => decide (p.pid = pid)) = true := hh
    obtain ⟨i, x, hx, hi, hfx, hpx⟩ := fst_get hh2
    have hfp : findP l pid = x := by simp [findP, hfx]
    have hlt := (List.getElem?_eq_some_iff.1 hx).1
    have hpid : x.pid = pid := by simpa using hpx
    have hfi : l.findIdx? (fun x => decide (x.pid = pid)) = some i := by
      unfold fstI at hi
      cases hf : l.findIdx? (fun x => decide (x.pid = pid)) with
      | none => rw [hf] at hi; simp at hi; omega
      | some j => rw [hf] at hi; simp at hi; exact congrArg some (by omega)
    rw [if_pos rfl, hfp, setS_ins hs]
    simp only [clearS, hfi, hx, putS]
    have hsp : l = l.take i ++ x :: l.drop (i + 1) := by rw [← drop_cons hx, List.take_append_drop]
    have hs2 : Srt Prod.pid (l.take i ++ x :: l.drop (i + 1)) := hsp ▸ hs
    have h1 := List.pairwise_append.1 hs2
    have h3 := (List.pairwise_cons.1 h1.2.1).1
    refine srt_ext ?_ (srt_insF hs) fun z => ?_
    · unfold Srt
      rw [List.pairwise_append, List.pairwise_cons]
      exact ⟨h1.1, ⟨fun y hy => h3 y hy, (List.pairwise_cons.1 h1.2.1).2⟩, fun a ha b hb => by
        rcases List.mem_cons.1 hb with rfl | hb
        · exact h1.2.2 a ha x (by simp)
        · exact h1.2.2 a ha b (by simp [hb])⟩
    · rw [mem_insF]
      simp only [List.mem_append, List.mem_cons]
      constructor
      · rintro (h | rfl | h)
        · exact .inr ⟨List.mem_of_mem_take h, by have := h1.2.2 z h x (by simp); show z.pid ≠ x.pid; omega⟩
        · exact .inl rfl
        · exact .inr ⟨List.mem_of_mem_drop h, by have := h3 z h; show z.pid ≠ x.pid; omega⟩
      · rintro (rfl | ⟨h, hne⟩)
        · exact .inr (.inl rfl)
        · rw [hsp] at h
          simp only [List.mem_append, List.mem_cons] at h
          rcases h with h | rfl | h
          · exact .inl h
          · exact absurd rfl hne
          · exact .inr (.inr h)
theorem clear_may {l : List Prod} (hl : mayPs l = true) (pid : Int) : mayPs (clearS l pid) = true := by
  rw [clear_eq hl]
  split
  · rename_i hh
    refine mayPs_set hl ?_
    have hk := (mayPs_iff.1 hl).2 _ (hasP_get hh).1
    have hb := known_bounds hk
    have : boundsP { findP l pid with seen := [] } := by unfold boundsP at hb ⊢; simp only [List.length_nil]; omega
    simp [knownP, this, chainOk]
  · exact hl
theorem clear_other {l : List Prod} (hl : mayPs l = true) {pid k : Int} (hne : k ≠ pid) : hasP (clearS l pid) k = hasP l k ∧ findP (clearS l pid) k = findP l k := by
  rw [clear_eq hl]
  split
  · rename_i hh
    have h2 := (hasP_get hh).2
    have e : ¬ ({ findP l pid with seen := [] } : Prod).pid = k := fun e => hne (by rw [← e]; exact h2)
    rw [hasP_set hl, findP_set hl, if_neg e]
    simp [e]
  · exact ⟨rfl, rfl⟩
theorem rowsAll_at : ∀ {l : List Batch} {f : Int}, 0 ≤ f → (∀ b ∈ l, mayBatch b = true) → Srt Row.offset (rowsAll l f) ∧ ∀ r ∈ rowsAll l f, f ≤ r.offset ∧ r.offset < f + recsN l ∧ rowBad r = false
  | [], f, _, _ => ⟨List.Pairwise.nil, fun r h => by simp [rowsAll] at h⟩
  | b :: t, f, hf, hb => by
    have hbm := hb b (by simp)
    obtain ⟨h1, h2⟩ := rowsAll_at (l := t) (f := f + b.recs.length) (by omega) fun x hx => hb x (by simp [hx])
    have h3 : ∀ r ∈ rowsOf b f, f ≤ r.offset ∧ r.offset < f + b.recs.length := fun r hr => by
      obtain ⟨i, z, hz, rfl⟩ := rows_get hr
      have hlt := (List.getElem?_eq_some_iff.1 hz).1
      simp only [rowOf]; rw [if_neg (by omega)]; omega
    refine ⟨?_, fun r hr => ?_⟩
    · simp only [rowsAll, Srt]
      rw [List.pairwise_append]
      exact ⟨rows_srt hf, h1, fun x hx y hy => by have := h3 x hx; have := h2 y hy; omega⟩
    · simp only [rowsAll, recsN] at hr ⊢
      rcases List.mem_append.1 hr with hr | hr
      · have := h3 r hr; exact ⟨by omega, by omega, rows_ok hbm hr⟩
      · obtain ⟨k1, k2, k3⟩ := h2 r hr; exact ⟨by omega, by omega, k3⟩
theorem endP_ok {e : Int} {p : Part} {k : Nat} {o : Opn} {yes : Bool} (h : POk p) (hk : p.opens[k]? = some o) (hf : p.fin + recsN o.batches + 1 ≤ 1048576) : POk (endP e p k o yes) := by
  have h0 := h.b0; have h1 := h.b1; have h2 := h.b2
  have hcp := (h.ook o (List.mem_of_getElem? hk)).1
  obtain ⟨k1, k2⟩ := rowsAll_at (l := o.batches) (f := p.fin) (by omega) fun b hb => (copyOk_all hcp b hb).1
  have hfin : p.fin ≤ (endP e p k o yes).fin ∧ (endP e p k o yes).fin ≤ p.fin + recsN o.batches + 1 ∧ (yes = true → p.fin + recsN o.batches ≤ (endP e p k o yes).fin) := by
    have hd : (0 : Int) ≤ (if e = 0 then 1 else 0) ∧ (if e = 0 then (1 : Int) else 0) ≤ 1 := by split <;> omega
    cases yes with
    | false =>
      simp only [endP, endC, Bool.false_eq_true, if_false]
      exact ⟨by omega, by omega, fun h => by cases h⟩
    | true =>
      simp only [endP, endC, if_true]
      exact ⟨by omega, by omega, fun _ => by omega⟩
  have hrows : ∀ r ∈ (endP e p k o yes).rows, r ∈ p.rows ∨ (yes = true ∧ r ∈ rowsAll o.batches p.fin) := fun r hr => by
    cases yes with
    | false => simp only [endP, endC, Bool.false_eq_true, if_false] at hr; exact .inl hr
    | true =>
      simp only [endP, endC, if_true] at hr
      rcases List.mem_append.1 hr with hr | hr
      · exact .inl hr
      · exact .inr ⟨rfl, hr⟩
  obtain ⟨f1, f2, f3⟩ := hfin
  refine ⟨h0, by show p.start ≤ (endP e p k o yes).fin; omega, by show (endP e p k o yes).fin ≤ 1048576; omega, ?_, fun r hr => ?_, srt_erase h.osrt, fun r hr => ?_, clear_may h.may _, fun x hx => ?_⟩
  · cases yes with
    | false => simp only [endP, endC, Bool.false_eq_true, if_false]; exact h.srt
    | true =>
      simp only [endP, endC, if_true, Srt]
      rw [List.pairwise_append]
      exact ⟨h.srt, k1, fun x hx y hy => by have := h.rin x hx; have := k2 y hy; omega⟩
  · show p.start ≤ r.offset ∧ r.offset < (endP e p k o yes).fin
    rcases hrows r hr with hr | ⟨hy, hr⟩
    · have := h.rin r hr; omega
    · have := k2 r hr; have := f3 hy; omega
  · rcases hrows r hr with hr | ⟨_, hr⟩
    · exact h.rok r hr
    · exact (k2 r hr).2.2
  · obtain ⟨q1, q2⟩ := erase_mem h.osrt hk hx
    obtain ⟨c1, c2⟩ := clear_other h.may (pid := o.pid) (k := x.pid) q2
    have := h.ook x q1
    unfold OpenOk at this ⊢
    show _ ∧ hasP (clearS p.prods o.pid) x.pid = true ∧ (findP (clearS p.prods o.pid) x.pid).epoch = _ ∧ (findP (clearS p.prods o.pid) x.pid).next = _
    rw [c1, c2]; exact this
theorem end_ok {e q : Int} {p : Part} {pid : Int} {yes : Bool} (h : (End e q p pid yes).e = 0) : badOf e q p = false ∧ ((p.opens.find? (fun o => decide (o.pid = pid)) = none ∧ End e q p pid yes = ⟨p, [], 0⟩) ∨ ∃ (k : Nat) (o : Opn), p.opens[k]? = some o ∧ o.pid = pid ∧ End e q p pid yes = ⟨endP e p k o yes, endW e q o yes, 0⟩) := by
  unfold End at h
  split at h
  · simp at h
  · rename_i hn
    have h1 : badOf e q p = false := by
      cases hb : badOf e q p with
      | false => rfl
      | true => exact absurd hb hn
    refine ⟨h1, ?_⟩
    cases hf : p.opens.find? (fun o => decide (o.pid = pid)) with
    | none => exact .inl ⟨rfl, by simp [End, h1, hf]⟩
    | some o =>
      obtain ⟨k, hk, hidx, _⟩ := find_idx hf
      have hpid : o.pid = pid := by simpa using List.find?_some hf
      exact .inr ⟨k, o, hk, hpid, by simp [End, h1, hf, hidx]⟩
theorem end_again {e q : Int} {p : Part} {pid : Int} {yes : Bool} (h : (End e q p pid yes).e = 0) (hf : p.fin ≤ 1000000) : End e q (End e q p pid yes).part pid yes = ⟨(End e q p pid yes).part, [], 0⟩ := by
  obtain ⟨hbad, hA⟩ := end_ok h
  have hp := partOk_iff.1 (of_good hbad).2.2.2
  rcases hA with ⟨hn, hP⟩ | ⟨k, o, hk, hpid, hP⟩
  · rw [hP]; simp only
    rw [hP]
  · rw [hP]; simp only
    have hcp := (hp.ook o (List.mem_of_getElem? hk)).1
    have hl := copyOk_len hcp
    have hr := recsN_le (l := o.batches) fun b hb => (copyOk_all hcp b hb).1
    have hok := endP_ok (e := e) (yes := yes) hp hk (by omega)
    have hn : (endP e p k o yes).opens.find? (fun o => decide (o.pid = pid)) = none := by
      rw [List.find?_eq_none]
      intro x hx
      have := (erase_mem hp.osrt hk hx).2
      simp; omega
    simp [End, bad_swap hbad hok, hn]
structure TQ (i : Nat) (p : Part) : Prop where
  small : smallPart p
  fin : p.fin ≤ 40 * i
  rows : p.rows.length ≤ 40 * i
  opens : p.opens.length ≤ i
theorem TQ.up {i : Nat} {p : Part} (h : TQ i p) : TQ (i + 1) p := ⟨h.small, by have := h.fin; omega, by have := h.rows; omega, by have := h.opens; omega⟩
theorem TQ.one {i : Nat} {p : Part} {b : Batch} (h : TQ i p) (hi : i ≤ 1000) (hp : POk p) (hb : mayBatch b = true) (hok : POk (oneP p b)) : TQ (i + 1) (oneP p b) := by
  have hm := may_bounds hb
  have h1 := h.fin; have h2 := h.rows; have h3 := h.opens
  have hlr : (rowsOf b p.fin).length = b.recs.length := rows_len
  have k1 : (oneP p b).rows.length ≤ p.rows.length + 4 := by
    cases ht : b.txn with
    | true => simp [oneP, ht, txnP]
    | false => simp [oneP, ht, plainP]; omega
  have k2 : (oneP p b).opens.length ≤ p.opens.length + 1 := by
    cases ht : b.txn with
    | true => simp only [oneP, ht, if_true, txnP]; exact insF_le
    | false => simp [oneP, ht, plainP]
  have k3 : (oneP p b).fin ≤ p.fin + 4 := by
    cases ht : b.txn with
    | true => simp [oneP, ht, txnP]; omega
    | false => simp [oneP, ht, plainP]; omega
  exact ⟨pOk_small hok (by omega) (by omega), by omega, by omega, by omega⟩
theorem TQ.end {i : Nat} {e : Int} {p : Part} {k : Nat} {o : Opn} {yes : Bool} (h : TQ i p) (hi : i ≤ 1000) (hp : POk p) (hk : p.opens[k]? = some o) : TQ (i + 1) (endP e p k o yes) := by
  have h1 := h.fin; have h2 := h.rows; have h3 := h.opens
  have hcp := (hp.ook o (List.mem_of_getElem? hk)).1
  have hl := copyOk_len hcp
  have hr := recsN_le (l := o.batches) fun b hb => (copyOk_all hcp b hb).1
  have hok := endP_ok (e := e) (yes := yes) hp hk (by omega)
  have hd : (0 : Int) ≤ (if e = 0 then 1 else 0) ∧ (if e = 0 then (1 : Int) else 0) ≤ 1 := by split <;> omega
  have k1 : (endP e p k o yes).rows.length ≤ p.rows.length + 32 := by
    cases yes with
    | false => simp only [endP, endC, Bool.false_eq_true, if_false]; omega
    | true => simp only [endP, endC, if_true, List.length_append, rowsAll_len]; omega
  have k2 : (endP e p k o yes).opens.length ≤ p.opens.length := by
    simp only [endP]; rw [List.length_eraseIdx]; split <;> omega
  have k3 : (endP e p k o yes).fin ≤ p.fin + 33 := by
    cases yes with
    | false => simp only [endP, endC, Bool.false_eq_true, if_false]; omega
    | true => simp only [endP, endC, if_true]; omega
  exact ⟨pOk_small hok (by omega) (by omega), by omega, by omega, by omega⟩
theorem TQ.cut {i : Nat} {p : Part} {n : Int} (h : TQ i p) : TQ (i + 1) (cutP p n) := by
  obtain ⟨s1, s2, s3, s4⟩ := h.small
  have hl : (p.rows.filter (fun r => decide (n ≤ r.offset))).length ≤ p.rows.length := List.length_filter_le ..
  have h1 := h.fin; have h2 := h.rows; have h3 := h.opens
  exact ⟨⟨by simp only [cutP]; omega, s2, s3, s4⟩, by simp only [cutP]; omega, by simp only [cutP]; omega, by simp only [cutP]; omega⟩
theorem does_step {e : Int} {i : Nat} {p : Part} {a : Act2} (h : TQ i p) (hi : i ≤ 1000) : TQ (i + 1) (does e p a).part := by
  unfold does
  split
  · split
    · exact h.up
    · rename_i hz
      obtain ⟨hbad, hm, hc, hA⟩ := prod_ok (Classical.not_not.1 hz)
      have hp := partOk_iff.1 (of_good hbad).2.2.2
      rcases hA with ⟨_, hP⟩ | ⟨hi2, hrc, hP⟩
      · rw [hP]; exact h.up
      · rw [hP]; exact h.one hi hp hm (one_ok hp hm hc hi2 hrc)
  · split
    · split
      · exact h.up
      · rename_i hz
        obtain ⟨hbad, hA⟩ := end_ok (Classical.not_not.1 hz)
        have hp := partOk_iff.1 (of_good hbad).2.2.2
        rcases hA with ⟨_, hP⟩ | ⟨k, o, hk, _, hP⟩
        · rw [hP]; exact h.up
        · rw [hP]; exact h.end hi hp hk
    · split
      · split
        · exact h.up
        · rename_i hz
          have hz := Classical.not_not.1 hz
          unfold Cut at hz ⊢
          split
          · rename_i hb; rw [if_pos hb] at hz; simp at hz
          · rename_i hb
            rw [if_neg hb] at hz
            split
            · rename_i hin; rw [if_pos hin] at hz; simp at hz
            · exact h.cut
      · exact h.up
theorem twice_law {e : Int} {l : List Act2} (hg : greatAs l = false) : TwiceLaw e l (fun i p => TQ i p ∧ i ≤ l.length) := by
  simp only [greatAs, Bool.or_eq_false_iff, decide_eq_false_iff_not] at hg
  obtain ⟨h60, hall⟩ := hg
  refine ⟨⟨⟨pOk_small pOk_Z (by decide) (by decide), by decide, by decide, by decide⟩, Nat.zero_le _⟩, fun h => h.1.small, fun {i a} ha => ?_, fun {i p a} hQ ha => ⟨does_step hQ.1 (by omega), (List.getElem?_eq_some_iff.1 ha).1⟩, fun {i p a} hQ ha he hk => ?_, fun {i p a} hQ ha he hk hw => ?_⟩
  · have := List.any_eq_false.1 hall a (List.mem_of_getElem? ha)
    have := (greatBs_small (by simpa using this)).2 a.b (by simp)
    omega
  · have hfin := hQ.1.fin
    have hil := hQ.2
    by_cases h0 : a.kind = 0
    · have hz : (Produce e 1 p (txB a)).e = 0 := by
        unfold does at he; rw [if_pos h0] at he
        split at he
        · exact he
        · rename_i hz; exact Classical.not_not.1 hz
      have hd : ∀ p', (Produce e 1 p' (txB a)).e = 0 → does e p' a = Produce e 1 p' (txB a) := fun p' h => by unfold does; rw [if_pos h0, if_neg (by simpa using h)]
      rw [hd p hz]
      have hag := prod_again hz
      rw [hd _ (by rw [hag]), hag]
      exact ⟨rfl, rfl, rfl, fun _ => rfl⟩
    · by_cases h1 : a.kind = 1
      · have hz : (End e 1 p a.pid a.yes).e = 0 := by
          unfold does at he; rw [if_neg h0, if_pos h1] at he
          split at he
          · exact he
          · rename_i hz; exact Classical.not_not.1 hz
        have hd : ∀ p', (End e 1 p' a.pid a.yes).e = 0 → does e p' a = ⟨(End e 1 p' a.pid a.yes).part, 0, (End e 1 p' a.pid a.yes).w, (End e 1 p' a.pid a.yes).e⟩ := fun p' h => by unfold does; rw [if_neg h0, if_pos h1, if_neg (by simpa using h)]
        rw [hd p hz]
        simp only
        have hag := end_again hz (by omega)
        rw [hd _ (by rw [hag]), hag]
        exact ⟨rfl, rfl, rfl, fun h => absurd h h0⟩
      · have h2 : a.kind ≠ 2 := by omega
        have hd : ∀ p', does e p' a = ⟨p', 0, [], 0⟩ := fun p' => by unfold does; rw [if_neg h0, if_neg h1, if_neg h2]
        rw [hd p, hd]
        exact ⟨rfl, rfl, rfl, fun _ => rfl⟩
  · have hz : (Produce e 1 p (txB a)).e = 0 := by
      unfold does at he; rw [if_pos hk] at he
      split at he
      · exact he
      · rename_i hz; exact Classical.not_not.1 hz
    have hd : does e p a = Produce e 1 p (txB a) := by unfold does; rw [if_pos hk, if_neg (by simpa using hz)]
    rw [hd] at hw ⊢
    exact prod_told hz hw
end Go.Proofs.YtpdmaenhenfofaaGreatDoor

namespace Go.Proofs.YtpdmaenhenfofaaGreatDoor
open Go.Am
attribute [local irreducible] Decidable.decide
set_option maxRecDepth 100000
set_option maxHeartbeats 1000000
theorem twice_ok (tag : Int) (l : List Act2) : Ct Tryz.prog 7 [.t (.int .i8 tag), .t (.slice .any 9 (l.map encAct2))] [] (.t (.bool true)) [] := by
  cases hg : greatAs l with
  | true =>
    have cg := great17_ok l
    rw [hg] at cg
    refine ct0 progOk Tryz.func7 rfl false rfl rfl ?_
    repeat' (first | refine w_step progOk rfl rfl rfl ?_ | refine w_nil ?_ | refine w_seq ?_ | refine w_reg progOk rfl rfl ?_ | (refine w_gFP rfl rfl rfl rfl rfl (ht := fun h => ?_) (hf := fun h => ?_) <;> try exact prn) | refine w_guardU rfl rfl rfl rfl rfl ?_ | (refine w_condP rfl (ht := fun h => ?_) (hf := fun h => ?_) <;> try exact prn) | refine w_ret ?_ | refine w_call progOk rfl rfl rfl rfl rfl rfl rfl (cg) rfl rfl ?_ | refine w_call progOk rfl rfl rfl rfl rfl rfl rfl (wakes_ok) rfl rfl ?_ | fail)
    all_goals exact w_fin rfl (Sub.of_eq rfl)
  | false =>
    by_cases ht : tag = 0 ∨ tag = 1
    · exact twice_walk tag l _ ht hg (twice_law hg)
    · have cg := great17_ok l
      rw [hg] at cg
      refine ct0 progOk Tryz.func7 rfl false rfl rfl ?_
      repeat' (first | refine w_step progOk rfl rfl rfl ?_ | refine w_nil ?_ | refine w_seq ?_ | refine w_reg progOk rfl rfl ?_ | (refine w_gTP rfl rfl rfl rfl rfl (ht := fun h => ?_) (hf := fun h => ?_) <;> try exact prn) | (refine w_gFP rfl rfl rfl rfl rfl (ht := fun h => ?_) (hf := fun h => ?_) <;> try exact prn) | (refine w_condP rfl (ht := fun h => ?_) (hf := fun h => ?_) <;> try exact prn) | refine w_ret ?_ | refine w_call progOk rfl rfl rfl rfl rfl rfl rfl (cg) rfl rfl ?_ | refine w_call progOk rfl rfl rfl rfl rfl rfl rfl (wakes_ok) rfl rfl ?_ | fail)
      all_goals first | (exfalso; simp_all; done) | (exfalso; omega) | exact w_fin rfl (Sub.of_eq rfl)
end Go.Proofs.YtpdmaenhenfofaaGreatDoor
