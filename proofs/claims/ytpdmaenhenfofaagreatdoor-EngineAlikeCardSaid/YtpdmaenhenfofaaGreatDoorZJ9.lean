/- Contracts and laws, joined: Qe, Qf, Qg, Qh. No condition beside those that each theorem names. -/
import Derived.Test.YtpdmaenhenfofaaGreatDoorZM9
import Derived.Test.YtpdmaenhenfofaaGreatDoorZJ8
import Derived.Test.YtpdmaenhenfofaaGreatDoorZJ6
import Derived.Test.YtpdmaenhenfofaaGreatDoorZM10
set_option linter.unusedVariables false
set_option linter.unusedSimpArgs false
namespace Go.Proofs.YtpdmaenhenfofaaGreatDoor
open Go.Am
attribute [local irreducible] Decidable.decide
set_option maxRecDepth 100000
set_option maxHeartbeats 1000000
/- what Check answers -/
def ckOk (l : List Prod) (b : Batch) : Bool := mayPs l && mayBatch b
def ckBase (l : List Prod) (b : Batch) : Int := if ckOk l b = true then (if fenced l b = true then 0 else chkBase l b) else 0
def ckIs (l : List Prod) (b : Batch) : Bool := ckOk l b && chkIs l b
def ckErr (l : List Prod) (b : Batch) : Int := if ckOk l b = true then chkErr l b else 2
theorem scheck_ok (l : List Prod) (b : Batch) (hl : smallPs l) (hb : b.recs.length ≤ 1000000000) : Ct Tryz.prog 70 [.t (.slice .any 4 (l.map encProd)), .agg (liftT (encBatch b))] [] (.tuple [.t (.int .i64 (ckBase l b)), .t (.bool (ckIs l b)), .t (.int .i64 (ckErr l b))]) [] := by
  have c1 := mayPs_ok l hl
  have c2 := rmay_ok b hb
  have c3 := judge_ok l b hl hb
  refine ct0 progOk Tryz.func70 rfl false rfl rfl ?_
  cases h1 : mayPs l with
  | false =>
    rw [h1] at c1
    have ho : ckOk l b = false := by simp [ckOk, h1]
    repeat' (first | refine w_step progOk rfl rfl rfl ?_ | refine w_nil ?_ | refine w_seq ?_ | refine w_reg progOk rfl rfl ?_ | (refine w_gFP rfl rfl rfl rfl rfl (ht := fun h => ?_) (hf := fun h => ?_) <;> try exact prn) | (refine w_condP rfl (ht := fun h => ?_) (hf := fun h => ?_) <;> try exact prn) | refine w_ret ?_ | refine w_call progOk rfl rfl rfl rfl rfl rfl rfl (c1) rfl rfl ?_ | fail)
    all_goals (refine w_fin rfl (Sub.of_eq ?_); simp [ckBase, ckIs, ckErr, ho])
  | true =>
    rw [h1] at c1
    cases h2 : mayBatch b with
    | false =>
      rw [h2] at c2
      have ho : ckOk l b = false := by simp [ckOk, h2]
      repeat' (first | refine w_step progOk rfl rfl rfl ?_ | refine w_nil ?_ | refine w_seq ?_ | refine w_reg progOk rfl rfl ?_ | (refine w_gFP rfl rfl rfl rfl rfl (ht := fun h => ?_) (hf := fun h => ?_) <;> try exact prn) | (refine w_condP rfl (ht := fun h => ?_) (hf := fun h => ?_) <;> try exact prn) | refine w_ret ?_ | refine w_call progOk rfl rfl rfl rfl rfl rfl rfl (c1) rfl rfl ?_ | refine w_call progOk rfl rfl rfl rfl rfl rfl rfl (c2) rfl rfl ?_ | fail)
      all_goals (refine w_fin rfl (Sub.of_eq ?_); simp [ckBase, ckIs, ckErr, ho])
    | true =>
      rw [h2] at c2
      have ho : ckOk l b = true := by simp [ckOk, h1, h2]
      by_cases he : chkErr l b = 0
      · have ht : chkT l b = .nilIface := by simp [chkT, he]
        rw [ht] at c3
        repeat' (first | refine w_step progOk rfl rfl rfl ?_ | refine w_nil ?_ | refine w_seq ?_ | refine w_reg progOk rfl rfl ?_ | (refine w_gFP rfl rfl rfl rfl rfl (ht := fun h => ?_) (hf := fun h => ?_) <;> try exact prn) | (refine w_condP rfl (ht := fun h => ?_) (hf := fun h => ?_) <;> try exact prn) | refine w_skip ?_ | refine w_ret ?_ | refine w_call progOk rfl rfl rfl rfl rfl rfl rfl (c1) rfl rfl ?_ | refine w_call progOk rfl rfl rfl rfl rfl rfl rfl (c2) rfl rfl ?_ | refine w_call progOk rfl rfl rfl rfl rfl rfl rfl (c3) rfl rfl ?_ | refine w_call progOk rfl rfl rfl rfl rfl rfl rfl (scode_nil) rfl rfl ?_ | fail)
        all_goals (refine w_fin rfl (Sub.of_eq ?_); simp [ckBase, ckIs, ckErr, ho, he])
      · have ht : chkT l b = refT b.pid (chkErr l b) := by simp [chkT, he]
        rw [ht] at c3
        repeat' (first | refine w_step progOk rfl rfl rfl ?_ | refine w_nil ?_ | refine w_seq ?_ | refine w_reg progOk rfl rfl ?_ | (refine w_gFP rfl rfl rfl rfl rfl (ht := fun h => ?_) (hf := fun h => ?_) <;> try exact prn) | (refine w_condP rfl (ht := fun h => ?_) (hf := fun h => ?_) <;> try exact prn) | refine w_skip ?_ | refine w_ret ?_ | refine w_call progOk rfl rfl rfl rfl rfl rfl rfl (c1) rfl rfl ?_ | refine w_call progOk rfl rfl rfl rfl rfl rfl rfl (c2) rfl rfl ?_ | refine w_call progOk rfl rfl rfl rfl rfl rfl rfl (c3) rfl rfl ?_ | refine w_call progOk rfl rfl rfl rfl rfl rfl rfl (scode_ok _ _) rfl rfl ?_ | fail)
        all_goals (refine w_fin rfl (Sub.of_eq ?_); simp [ckBase, ckIs, ckErr, ho])
/- copies -/
def smallO (o : Opn) : Prop := o.batches.length ≤ 1000000 ∧ ∀ b ∈ o.batches, b.recs.length ≤ 1000000
def ccT (o : Opn) : T := if copyOk o = true then .nilIface else if 1 ≤ o.batches.length ∧ o.batches.length ≤ 8 then faultT 310 [97, 32, 98, 97, 116, 99, 104] 2 else faultT 310 [116, 104, 101, 32, 110, 117, 109, 98, 101, 114, 32, 111, 102, 32, 98, 97, 116, 99, 104, 101, 115] 2
theorem ccheckT_ok (o : Opn) (hs : smallO o) : Ct Tryz.prog 156 [.agg (liftT (encOpn o))] [] (.t (ccT o)) [] := by
  have hlm : (o.batches.map encBatch).length = o.batches.length := List.length_map ..
  refine ct0 progOk Tryz.func156 rfl false rfl rfl ?_
  by_cases hn : 1 ≤ o.batches.length ∧ o.batches.length ≤ 8
  · have hr0 : o.batches[0]? = some (o.batches[0]'(by omega)) := List.getElem?_eq_getElem _
    have hf := firstSeq_get hr0
    generalize o.batches[0]'(by omega) = b0' at hr0 hf
    have hcc : copyOk o = copyChain o.pid o.epoch (firstSeq o.batches) o.batches := by simp [copyOk, hn]
    rw [hf] at hcc
    repeat' (first | refine w_step progOk rfl rfl rfl ?_ | refine w_nil ?_ | refine w_seq ?_ | refine w_reg progOk rfl rfl ?_ | (refine w_gFP rfl rfl rfl rfl rfl (ht := fun h => ?_) (hf := fun h => ?_) <;> try exact prn) | (refine w_condP rfl (ht := fun h => ?_) (hf := fun h => ?_) <;> try exact prn) | refine w_block ?_ | refine w_skip ?_ | refine w_index progOk rfl rfl rfl rfl rfl rfl rfl (map_get (by assumption)) rfl ?_ | fail)
    all_goals try (exfalso; omega)
    refine w_loop (ι := Nat × Int) (fun p => p.1 ≤ o.batches.length ∧ copyOk o = copyChain o.pid o.epoch p.2 (o.batches.drop p.1)) (fun p => [(1, .ref 2 0), (3, .t (.int .i64 p.2)), (25, .t (.slice .any 5 (o.batches.map encBatch))), (26, .t (.int .i64 o.batches.length)), (27, .t (.int .i64 p.1))]) (fun _ => [(2, .cells (liftT (encOpn o)))]) (fun p => o.batches.length - p.1) (0, b0'.seq) ⟨by simp, hcc⟩ ?_ ?_
    · exact at_of [] (sub_eq rfl rfl (sub_eq rfl rfl (sub_eq rfl rfl (sub_eq rfl (by rw [hlm]) (sub_eq rfl rfl sub_nil))))) rfl
    rintro ⟨i, next⟩ ⟨hi, hc⟩
    simp only at hi hc
    by_cases hlt : i < o.batches.length
    · have hr : o.batches[i]? = some o.batches[i] := List.getElem?_eq_getElem hlt
      have hsm := hs.2 o.batches[i] (List.getElem_mem hlt)
      generalize o.batches[i] = r at hr hsm
      rw [drop_cons hr] at hc
      simp only [copyChain] at hc
      have cm := rmay_ok r (by omega)
      cases hm : mayBatch r with
      | false =>
        rw [hm] at cm hc
        repeat' (first | refine w_stepZ progOk rfl rfl rfl rfl rfl ?_ | refine w_step progOk rfl rfl rfl ?_ | refine w_nil ?_ | refine w_seq ?_ | refine w_reg progOk rfl rfl ?_ | (refine w_condP rfl (ht := fun h => ?_) (hf := fun h => ?_) <;> try exact prn) | refine w_block ?_ | refine w_skip ?_ | refine w_exit ?_ | refine w_ret ?_ | refine w_index progOk rfl rfl rfl rfl rfl rfl rfl (map_get (by assumption)) rfl ?_ | refine w_call progOk rfl rfl rfl rfl rfl rfl rfl (cm) rfl rfl ?_ | fail)
        all_goals (refine w_fin rfl (Sub.of_eq ?_); simp at hc; simp [ccT, hc, hn, faultT])
      | true =>
        rw [hm] at cm hc
        repeat' (first | refine w_stepZ progOk rfl rfl rfl rfl rfl ?_ | refine w_step progOk rfl rfl rfl ?_ | refine w_nil ?_ | refine w_seq ?_ | refine w_reg progOk rfl rfl ?_ | (refine w_gFP rfl rfl rfl rfl rfl (ht := fun h => ?_) (hf := fun h => ?_) <;> try exact prn) | (refine w_condP rfl (ht := fun h => ?_) (hf := fun h => ?_) <;> try exact prn) | refine w_block ?_ | refine w_skip ?_ | refine w_exit ?_ | refine w_ret ?_ | refine w_index progOk rfl rfl rfl rfl rfl rfl rfl (map_get (by assumption)) rfl ?_ | refine w_call progOk rfl rfl rfl rfl rfl rfl rfl (cm) rfl rfl ?_ | refine w_call progOk rfl rfl rfl rfl rfl rfl rfl (rbehind_ok r hm) rfl rfl ?_ | fail)
        all_goals first
          | (refine w_next (i + 1, behindB r) ⟨by simp; omega, ?_⟩ (by simp; omega) [5] (sub_eq rfl rfl (sub_eq rfl rfl (sub_eq rfl rfl (sub_eq rfl rfl (sub_eq rfl (by rw [wrap64 (by omega) (by omega)]; rfl) sub_nil))))) rfl
             rw [hc]; simp_all)
          | (refine w_fin rfl (Sub.of_eq ?_)
             have hno : copyOk o = false := by rw [hc]; simp_all
             simp [ccT, hno, hn, faultT])
    · repeat' (first | refine w_step progOk rfl rfl rfl ?_ | refine w_nil ?_ | refine w_seq ?_ | refine w_reg progOk rfl rfl ?_ | (refine w_condP rfl (ht := fun h => ?_) (hf := fun h => ?_) <;> try exact prn) | refine w_exit ?_ | refine w_ret ?_ | fail)
      refine w_fin rfl (Sub.of_eq ?_)
      have hyes : copyOk o = true := by rw [hc, List.drop_of_length_le (by omega)]; rfl
      simp [ccT, hyes]
  · have hno : copyOk o = false := by simp [copyOk]; intro h; omega
    repeat' (first | refine w_step progOk rfl rfl rfl ?_ | refine w_nil ?_ | refine w_seq ?_ | refine w_reg progOk rfl rfl ?_ | (refine w_gFP rfl rfl rfl rfl rfl (ht := fun h => ?_) (hf := fun h => ?_) <;> try exact prn) | (refine w_condP rfl (ht := fun h => ?_) (hf := fun h => ?_) <;> try exact prn) | refine w_ret ?_ | fail)
    all_goals first | (exfalso; omega) | (refine w_fin rfl (Sub.of_eq ?_); rw [ccT, hno, if_neg (by simp), if_neg hn]; rfl)
theorem copiesT_ok (o : Opn) (hs : smallO o) (h : copyOk o = false) : Ct Tryz.prog 96 [.agg (liftT (encOpn o))] [] (.tuple [.t (.slice .any 18 []), .t (.int .i64 2)]) [] := by
  have cc := ccheckT_ok o hs
  refine ct0 progOk Tryz.func96 rfl false rfl rfl ?_
  by_cases hn : 1 ≤ o.batches.length ∧ o.batches.length ≤ 8
  · have ht : ccT o = faultT 310 [97, 32, 98, 97, 116, 99, 104] 2 := by simp [ccT, h, hn]
    rw [ht] at cc
    repeat' (first | refine w_step progOk rfl rfl rfl ?_ | refine w_nil ?_ | refine w_seq ?_ | refine w_reg progOk rfl rfl ?_ | (refine w_condP rfl (ht := fun h => ?_) (hf := fun h => ?_) <;> try exact prn) | refine w_ret ?_ | refine w_call progOk rfl rfl rfl rfl rfl rfl rfl (cc) rfl rfl ?_ | refine w_call progOk rfl rfl rfl rfl rfl rfl rfl (cpcode_ok _ _) rfl rfl ?_ | fail)
    refine w_fin rfl ?_
    exact sub_tuple ⟨sub_slNil, Sub.refl _, trivial⟩
  · have ht : ccT o = faultT 310 [116, 104, 101, 32, 110, 117, 109, 98, 101, 114, 32, 111, 102, 32, 98, 97, 116, 99, 104, 101, 115] 2 := by simp [ccT, h, hn]
    rw [ht] at cc
    repeat' (first | refine w_step progOk rfl rfl rfl ?_ | refine w_nil ?_ | refine w_seq ?_ | refine w_reg progOk rfl rfl ?_ | (refine w_condP rfl (ht := fun h => ?_) (hf := fun h => ?_) <;> try exact prn) | refine w_ret ?_ | refine w_call progOk rfl rfl rfl rfl rfl rfl rfl (cc) rfl rfl ?_ | refine w_call progOk rfl rfl rfl rfl rfl rfl rfl (cpcode_ok _ _) rfl rfl ?_ | fail)
    refine w_fin rfl ?_
    exact sub_tuple ⟨sub_slNil, Sub.refl _, trivial⟩
end Go.Proofs.YtpdmaenhenfofaaGreatDoor

namespace Go.Proofs.YtpdmaenhenfofaaGreatDoor
open Go.Am
attribute [local irreducible] Decidable.decide
set_option maxRecDepth 100000
set_option maxHeartbeats 1000000
def smallPart (p : Part) : Prop := p.rows.length ≤ 1000000 ∧ p.opens.length ≤ 1000000 ∧ (∀ o ∈ p.opens, smallO o) ∧ smallPs p.prods
def openOk (p : Part) (o : Opn) : Bool := copyOk o && (hasP p.prods o.pid && decide ((findP p.prods o.pid).epoch = o.epoch ∧ (findP p.prods o.pid).next = lastB o.batches))
def headOk3 (p : Part) : Bool := readOk p && (!p.rows.any rowBad && mayPs p.prods)
def partOk (p : Part) : Bool := headOk3 p && p.opens.all (openOk p)
def ckMsg (p : Part) : Bs := if headOk3 p = true then (match p.opens.find? (fun o => !openOk p o) with
  | some o => if copyOk o = true then [116, 104, 101, 32, 112, 114, 111, 100, 117, 99, 101, 114, 32, 111, 102, 32, 97, 110, 32, 111, 112, 101, 110, 32, 116, 114, 97, 110, 115, 97, 99, 116, 105, 111, 110] else [97, 110, 32, 111, 112, 101, 110, 32, 116, 114, 97, 110, 115, 97, 99, 116, 105, 111, 110]
  | none => []) else [97, 32, 112, 97, 114, 116]
def enT (p : Part) : T := if partOk p = true then .nilIface else faultT 97 (ckMsg p) 2
theorem ck_bad {p : Part} {i : Nat} {o : Opn} (hh : headOk3 p = true) (ho : p.opens[i]? = some o) (hall : (p.opens.take i).all (openOk p) = true) (hb : openOk p o = false) : partOk p = false ∧ ckMsg p = if copyOk o = true then [116, 104, 101, 32, 112, 114, 111, 100, 117, 99, 101, 114, 32, 111, 102, 32, 97, 110, 32, 111, 112, 101, 110, 32, 116, 114, 97, 110, 115, 97, 99, 116, 105, 111, 110] else [97, 110, 32, 111, 112, 101, 110, 32, 116, 114, 97, 110, 115, 97, 99, 116, 105, 111, 110] := by
  obtain ⟨hlt, he⟩ := List.getElem?_eq_some_iff.1 ho
  have hf : p.opens.find? (fun o => !openOk p o) = some o := by
    rw [List.find?_eq_some_iff_getElem]
    refine ⟨by simp [hb], i, hlt, he, fun j hj => ?_⟩
    have hm : p.opens[j]'(by omega) ∈ p.opens.take i := List.mem_take_iff_getElem.2 ⟨j, by omega, rfl⟩
    have := List.all_eq_true.1 hall _ hm
    simp [this]
  refine ⟨?_, by simp [ckMsg, hh, hf]⟩
  have : p.opens.all (openOk p) = false := by
    cases ha : p.opens.all (openOk p) with
    | false => rfl
    | true => have := List.all_eq_true.1 ha o (List.mem_of_getElem? ho); rw [hb] at this; cases this
  simp [partOk, this]
theorem echeck_ok (p : Part) (hs : smallPart p) : Ct Tryz.prog 52 [.agg (liftT (encPart p))] [] (.t (enT p)) [] := by
  obtain ⟨h1, h2, h3, h4⟩ := hs
  have c1 := rdCheck_ok p (by omega) (by omega)
  have c2 := containsRow_ok 94 [] rowBad p.rows (by omega) wrong_ok rfl
  have c3 := mayPs_ok p.prods h4
  have hlm : (p.opens.map encOpn).length = p.opens.length := List.length_map ..
  refine ct0 progOk Tryz.func52 rfl false rfl rfl ?_
  cases hh : headOk3 p with
  | false =>
    have ht : enT p = faultT 97 [97, 32, 112, 97, 114, 116] 2 := by simp [enT, partOk, hh, ckMsg]
    cases hr : readOk p with
    | false =>
      simp only [hr, Bool.false_eq_true, if_false] at c1
      repeat' (first | refine w_step progOk rfl rfl rfl ?_ | refine w_nil ?_ | refine w_seq ?_ | refine w_reg progOk rfl rfl ?_ | (refine w_condP rfl (ht := fun h => ?_) (hf := fun h => ?_) <;> try exact prn) | refine w_block ?_ | refine w_exit ?_ | refine w_ret ?_ | refine w_call progOk rfl rfl rfl rfl rfl rfl rfl (c1) rfl rfl ?_ | fail)
      all_goals (refine w_fin rfl (Sub.of_eq ?_); rw [ht]; rfl)
    | true =>
      simp only [hr, if_true] at c1
      cases hw : p.rows.any rowBad with
      | true =>
        rw [hw] at c2
        repeat' (first | refine w_step progOk rfl rfl rfl ?_ | refine w_nil ?_ | refine w_seq ?_ | refine w_reg progOk rfl rfl ?_ | (refine w_condP rfl (ht := fun h => ?_) (hf := fun h => ?_) <;> try exact prn) | refine w_block ?_ | refine w_skip ?_ | refine w_exit ?_ | refine w_ret ?_ | refine w_call progOk rfl rfl rfl rfl rfl rfl rfl (c1) rfl rfl ?_ | refine w_call progOk rfl rfl rfl rfl rfl rfl rfl (c2) rfl rfl ?_ | fail)
        all_goals (refine w_fin rfl (Sub.of_eq ?_); rw [ht]; rfl)
      | false =>
        rw [hw] at c2
        have hm : mayPs p.prods = false := by simpa [headOk3, hr, hw] using hh
        rw [hm] at c3
        repeat' (first | refine w_step progOk rfl rfl rfl ?_ | refine w_nil ?_ | refine w_seq ?_ | refine w_reg progOk rfl rfl ?_ | (refine w_condP rfl (ht := fun h => ?_) (hf := fun h => ?_) <;> try exact prn) | refine w_block ?_ | refine w_skip ?_ | refine w_exit ?_ | refine w_ret ?_ | refine w_call progOk rfl rfl rfl rfl rfl rfl rfl (c1) rfl rfl ?_ | refine w_call progOk rfl rfl rfl rfl rfl rfl rfl (c2) rfl rfl ?_ | refine w_call progOk rfl rfl rfl rfl rfl rfl rfl (c3) rfl rfl ?_ | fail)
        all_goals (refine w_fin rfl (Sub.of_eq ?_); rw [ht]; rfl)
  | true =>
    have hh' := hh
    simp only [headOk3, Bool.and_eq_true, Bool.not_eq_true'] at hh'
    obtain ⟨hr, hw, hm⟩ := hh'
    simp only [hr, if_true] at c1
    rw [hw] at c2
    rw [hm] at c3
    repeat' (first | refine w_step progOk rfl rfl rfl ?_ | refine w_nil ?_ | refine w_seq ?_ | refine w_reg progOk rfl rfl ?_ | (refine w_condP rfl (ht := fun h => ?_) (hf := fun h => ?_) <;> try exact prn) | refine w_block ?_ | refine w_skip ?_ | refine w_exit ?_ | refine w_call progOk rfl rfl rfl rfl rfl rfl rfl (c1) rfl rfl ?_ | refine w_call progOk rfl rfl rfl rfl rfl rfl rfl (c2) rfl rfl ?_ | refine w_call progOk rfl rfl rfl rfl rfl rfl rfl (c3) rfl rfl ?_ | fail)
    refine w_loop (ι := Nat) (fun i => i ≤ p.opens.length ∧ (p.opens.take i).all (openOk p) = true) (fun i => [(1, .ref 2 0), (26, .t (.slice .any 3 (p.opens.map encOpn))), (27, .t (.int .i64 p.opens.length)), (28, .t (.int .i64 i))]) (fun _ => [(2, .cells (liftT (encPart p)))]) (fun i => p.opens.length - i) 0 (by simp) ?_ ?_
    · exact at_of [] (sub_eq rfl rfl (sub_eq rfl rfl (sub_eq rfl (by rw [hlm]) (sub_eq rfl rfl sub_nil)))) rfl
    rintro i ⟨hi, hall⟩
    by_cases hlt : i < p.opens.length
    · have hr : p.opens[i]? = some p.opens[i] := List.getElem?_eq_getElem hlt
      have hso := h3 p.opens[i] (List.getElem_mem hlt)
      generalize p.opens[i] = o at hr hso
      cases hc : copyOk o with
      | false =>
        have ho : openOk p o = false := by simp [openOk, hc]
        obtain ⟨q1, q2⟩ := ck_bad hh hr hall ho
        have ht : enT p = faultT 97 [97, 110, 32, 111, 112, 101, 110, 32, 116, 114, 97, 110, 115, 97, 99, 116, 105, 111, 110] 2 := by simp [enT, q1, q2, hc]
        repeat' (first | refine w_stepZ progOk rfl rfl rfl rfl rfl ?_ | refine w_step progOk rfl rfl rfl ?_ | refine w_nil ?_ | refine w_seq ?_ | refine w_reg progOk rfl rfl ?_ | (refine w_condP rfl (ht := fun h => ?_) (hf := fun h => ?_) <;> try exact prn) | refine w_block ?_ | refine w_skip ?_ | refine w_ret ?_ | refine w_index progOk rfl rfl rfl rfl rfl rfl rfl (map_get (by assumption)) rfl ?_ | refine w_call progOk rfl rfl rfl rfl rfl rfl rfl (copiesT_ok o hso hc) rfl rfl ?_ | fail)
        all_goals (refine w_fin rfl (Sub.of_eq ?_); rw [ht]; rfl)
      | true =>
        have hc' := hc
        simp only [copyOk, Bool.and_eq_true, decide_eq_true_eq] at hc'
        obtain ⟨⟨n1, n2⟩, hch⟩ := hc'
        have hz : o.batches[o.batches.length - 1]? = some (o.batches[o.batches.length - 1]'(by omega)) := List.getElem?_eq_getElem _
        have hmz := chain_may hch _ (List.mem_of_getElem? hz)
        have hlb := lastB_get hz
        generalize o.batches[o.batches.length - 1]'(by omega) = z at hz hmz hlb
        have hlmb : (o.batches.map encBatch).length = o.batches.length := List.length_map ..
        have hw' : IntKind.i64.wrap (((o.batches.map encBatch).length : Int) - 1) = ((o.batches.length - 1 : Nat) : Int) := by rw [hlmb, wrap64 (by omega) (by omega)]; omega
        have cfp := findP_ok p.prods o.pid h4
        have hoo : openOk p o = (hasP p.prods o.pid && decide ((findP p.prods o.pid).epoch = o.epoch ∧ (findP p.prods o.pid).next = behindB z)) := by simp [openOk, hc, hlb]
        generalize hasP p.prods o.pid = k at cfp hoo
        generalize findP p.prods o.pid = q at cfp hoo
        have bad : openOk p o = false → enT p = faultT 97 [116, 104, 101, 32, 112, 114, 111, 100, 117, 99, 101, 114, 32, 111, 102, 32, 97, 110, 32, 111, 112, 101, 110, 32, 116, 114, 97, 110, 115, 97, 99, 116, 105, 111, 110] 2 := fun ho => by
          obtain ⟨q1, q2⟩ := ck_bad hh hr hall ho
          simp [enT, q1, q2, hc]
        cases k with
        | false =>
          have ht := bad (by rw [hoo]; rfl)
          repeat' (first | refine w_stepZ progOk rfl rfl rfl rfl rfl ?_ | refine w_step progOk rfl rfl rfl ?_ | refine w_nil ?_ | refine w_seq ?_ | refine w_reg progOk rfl rfl ?_ | (refine w_gFP rfl rfl rfl rfl rfl (ht := fun h => ?_) (hf := fun h => ?_) <;> try exact prn) | (refine w_condP rfl (ht := fun h => ?_) (hf := fun h => ?_) <;> try exact prn) | refine w_block ?_ | refine w_skip ?_ | refine w_ret ?_ | refine w_index progOk rfl rfl rfl rfl rfl rfl rfl (map_get (by assumption)) rfl ?_ | refine w_regD (id := 12) (m := 21) progOk (by kernel_rfl) rfl rfl rfl rfl ?_ | refine s_step rfl rfl rfl rfl ?_ | (refine s_gFP rfl rfl rfl rfl rfl (ht := fun h => ?_) (hf := fun h => ?_) <;> try exact prn) | refine w_call progOk rfl rfl rfl rfl rfl rfl rfl (copies_ok o hc) rfl rfl ?_ | refine w_call progOk rfl rfl rfl rfl rfl rfl rfl (cfp) rfl rfl ?_ | fail)
          all_goals (refine w_fin rfl (Sub.of_eq ?_); rw [ht]; rfl)
        | true =>
          repeat' (first | refine w_stepZ progOk rfl rfl rfl rfl rfl ?_ | refine w_step progOk rfl rfl rfl ?_ | refine w_nil ?_ | refine w_seq ?_ | refine w_reg progOk rfl rfl ?_ | (refine w_gFP rfl rfl rfl rfl rfl (ht := fun h => ?_) (hf := fun h => ?_) <;> try exact prn) | (refine w_condP rfl (ht := fun h => ?_) (hf := fun h => ?_) <;> try exact prn) | refine w_block ?_ | refine w_skip ?_ | refine w_ret ?_ | refine w_index progOk rfl rfl rfl rfl rfl rfl rfl (map_get (by assumption)) rfl ?_ | refine w_regD (id := 12) (m := 21) progOk (by kernel_rfl) rfl rfl rfl rfl ?_ | refine s_step rfl rfl rfl rfl ?_ | (refine s_gFP rfl rfl rfl rfl rfl (ht := fun h => ?_) (hf := fun h => ?_) <;> try exact prn) | refine s_indexE rfl rfl rfl rfl rfl rfl rfl (by assumption) (map_get (by assumption)) rfl ?_ | refine w_call progOk rfl rfl rfl rfl rfl rfl rfl (copies_ok o hc) rfl rfl ?_ | refine w_call progOk rfl rfl rfl rfl rfl rfl rfl (cfp) rfl rfl ?_ | refine s_call rfl rfl rfl rfl rfl (rbehind_ok z hmz) rfl rfl ?_ | fail)
          all_goals first
            | (refine w_next (i + 1) ⟨hlt, ?_⟩ (by omega) [4, 7] (sub_eq rfl rfl (sub_eq rfl rfl (sub_eq rfl rfl (sub_eq rfl (by rw [wrap64 (by omega) (by omega)]; rfl) sub_nil)))) rfl
               have hyes : openOk p o = true := by rw [hoo]; simp_all
               rw [take_succ hr]; simp [List.all_append, hall, hyes])
            | (refine w_fin rfl (Sub.of_eq ?_)
               rw [bad (by rw [hoo]; simp_all)]; rfl)
    · repeat' (first | refine w_step progOk rfl rfl rfl ?_ | refine w_nil ?_ | refine w_seq ?_ | refine w_reg progOk rfl rfl ?_ | (refine w_condP rfl (ht := fun h => ?_) (hf := fun h => ?_) <;> try exact prn) | refine w_exit ?_ | refine w_ret ?_ | fail)
      refine w_fin rfl (Sub.of_eq ?_)
      rw [List.take_of_length_le (by omega)] at hall
      simp [enT, partOk, hh, hall]
end Go.Proofs.YtpdmaenhenfofaaGreatDoor

namespace Go.Proofs.YtpdmaenhenfofaaGreatDoor
open Go.Am
attribute [local irreducible] Decidable.decide
set_option maxRecDepth 100000
set_option maxHeartbeats 1000000
theorem cloneRow_own (l : List Row) (hl : l.length ≤ 1000000) : Ct Tryz.prog 99 [.t (.slice .any 5 (l.map encRow))] [] (.row 14 5 0 (l.map encRow).length) [(14, .grow 5 (l.map encRow))] := by
  refine ct1 progOk Tryz.func99 rfl rfl ?_
  have hlm : (l.map encRow).length = l.length := List.length_map ..
  repeat' (first | refine w_stepZ progOk rfl rfl rfl rfl rfl ?_ | refine w_step progOk rfl rfl rfl ?_ | refine w_nil ?_ | refine w_seq ?_ | refine w_reg progOk rfl rfl ?_ | (refine w_condP rfl (ht := fun h => ?_) (hf := fun h => ?_) <;> try exact prn) | refine w_skip ?_ | refine w_nilQ progOk rfl rfl rfl rfl rfl (fun _ => rfl) (fun b hb => ?_) | refine w_appE progOk rfl rfl rfl rfl rfl rfl rfl rfl rfl rfl rfl rfl rfl (by simp; omega) ?_ | fail)
  · have h0 := hb h
    rw [h0]
    refine Tr.nilRow 2 7 5 rfl rfl ?_
    refine w_ret ?_
    exact w_fin1 [] rfl rfl rfl (Sub.refl _)
  · refine w_ret ?_
    exact w_fin1 [] rfl rfl rfl (Sub.refl _)
theorem ownBatch_ok (b : Batch) (h : b.recs.length ≤ 1000000) : Ct Tryz.prog 73 [.agg (liftT (encBatch b))] [] (.agg (liftT (encBatch b))) [] := by
  refine ct0 progOk Tryz.func73 rfl false rfl rfl ?_
  repeat' (first | refine w_stepZ progOk rfl rfl rfl rfl rfl ?_ | refine w_step progOk rfl rfl rfl ?_ | refine w_nil ?_ | refine w_seq ?_ | refine w_reg progOk rfl rfl ?_ | refine w_ret ?_ | refine w_call progOk rfl rfl rfl rfl rfl rfl rfl (cloneRecs_ok b.recs h) rfl rfl ?_ | fail)
  exact w_fin rfl (Sub.refl _)
theorem ownOpen_ok (o : Opn) (hs : smallO o) : Ct Tryz.prog 100 [.agg (liftT (encOpn o))] [] (.agg (liftT (encOpn o))) [] := by
  have hlm : (o.batches.map encBatch).length = o.batches.length := List.length_map ..
  have hs1 := hs.1
  refine ct0 progOk Tryz.func100 rfl false rfl rfl ?_
  repeat' (first | refine w_stepZ progOk rfl rfl rfl rfl rfl ?_ | refine w_step progOk rfl rfl rfl ?_ | refine w_nil ?_ | refine w_seq ?_ | refine w_reg progOk rfl rfl ?_ | refine w_block ?_ | fail)
  refine Tr.nilCell 2 2 40 5 rfl rfl rfl ?_
  refine w_loop (ι := Nat) (fun i => i ≤ o.batches.length) (fun i => [(1, .ref 2 0), (2, .ref 4 0), (9, .t (.slice .any 5 (o.batches.map encBatch))), (10, .t (.int .i64 ((o.batches.map encBatch).length : Int))), (11, .t (.int .i64 i))]) (fun i => [(80, .grow 5 ((o.batches.take i).map encBatch)), (4, .cells (liftT ti105.zero)), (2, .cells [.t (.int .i64 o.pid), .t (.int .i64 o.epoch), .row 80 5 0 ((o.batches.take i).map encBatch).length])]) (fun i => o.batches.length - i) 0 (by simp) ?_ ?_
  · exact at_of [] (sub_eq rfl rfl (sub_eq rfl rfl (sub_eq rfl rfl (sub_eq rfl rfl (sub_eq rfl rfl sub_nil))))) rfl
  rintro i hi
  by_cases hlt : i < o.batches.length
  · have hr : o.batches[i]? = some o.batches[i] := List.getElem?_eq_getElem hlt
    have hsr := hs.2 o.batches[i] (List.getElem_mem hlt)
    generalize o.batches[i] = r at hr hsr
    repeat' (first | refine w_stepZ progOk rfl rfl rfl rfl rfl ?_ | refine w_step progOk rfl rfl rfl ?_ | refine w_nil ?_ | refine w_seq ?_ | refine w_reg progOk rfl rfl ?_ | (refine w_condP rfl (ht := fun h => ?_) (hf := fun h => ?_) <;> try exact prn) | refine w_block ?_ | refine w_skip ?_ | refine w_index progOk rfl rfl rfl rfl rfl rfl rfl (map_get (by assumption)) rfl ?_ | refine w_appRow progOk rfl rfl rfl rfl rfl rfl rfl rfl rfl rfl rfl rfl rfl rfl (by simp [chunk]; omega) ?_ | refine w_regD (id := 6) (m := 5) progOk (by kernel_rfl) rfl rfl rfl rfl ?_ | refine s_step rfl rfl rfl rfl ?_ | refine s_call rfl rfl rfl rfl rfl (ownBatch_ok r hsr) rfl rfl ?_ | fail)
    refine w_next (i + 1) hlt (by omega) [5] (sub_eq rfl rfl (sub_eq rfl rfl (sub_eq rfl rfl (sub_eq rfl rfl (sub_eq rfl (by rw [wrap64 (by omega) (by omega)]; rfl) sub_nil))))) ?_
    have ht : (o.batches.take (i + 1)).map encBatch = (o.batches.take i).map encBatch ++ [encBatch r] := by rw [take_succ hr]; simp
    rw [ht]; rfl
  · repeat' (first | refine w_stepZ progOk rfl rfl rfl rfl rfl ?_ | refine w_step progOk rfl rfl rfl ?_ | refine w_nil ?_ | refine w_seq ?_ | refine w_reg progOk rfl rfl ?_ | (refine w_condP rfl (ht := fun h => ?_) (hf := fun h => ?_) <;> try exact prn) | refine w_exit ?_ | refine w_ret ?_ | fail)
    refine w_fin rfl (Sub.of_eq ?_)
    rw [List.take_of_length_le (by omega)]
    simp [frzA, frzL, encOpn, liftT]
    try exact List.take_of_length_le (by simp)
def ownRows (p : Part) : St := [(90, .grow 4 (p.prods.map encProd)), (80, .grow 3 (p.opens.map encOpn)), (28, .grow 5 (p.rows.map encRow))]
theorem own_ok (p : Part) (hs : smallPart p) : Ct Tryz.prog 53 [.agg (liftT (encPart p))] [] (.agg [.t (.int .i64 p.start), .t (.int .i64 p.fin), .row 28 5 0 p.rows.length, .row 80 3 0 p.opens.length, .row 90 4 0 p.prods.length]) (ownRows p) := by
  obtain ⟨h1, h2, h3, h4, h5⟩ := hs
  have hlo : (p.opens.map encOpn).length = p.opens.length := List.length_map ..
  have hlp : (p.prods.map encProd).length = p.prods.length := List.length_map ..
  refine ct1 progOk Tryz.func53 rfl rfl ?_
  repeat' (first | refine w_stepZ progOk rfl rfl rfl rfl rfl ?_ | refine w_step progOk rfl rfl rfl ?_ | refine w_nil ?_ | refine w_seq ?_ | refine w_reg progOk rfl rfl ?_ | refine w_block ?_ | refine w_regD (id := 1) (m := 9) progOk (by kernel_rfl) rfl rfl rfl rfl ?_ | refine s_step rfl rfl rfl rfl ?_ | refine s_callRow rfl rfl rfl rfl rfl (cloneRow_own p.rows h1) rfl rfl rfl rfl ?_ | fail)
  refine Tr.nilCell 6 4 45 4 rfl rfl rfl ?_
  refine Tr.nilCell 6 3 40 3 rfl rfl rfl ?_
  refine w_loop (ι := Nat) (fun i => i ≤ p.opens.length) (fun i => [(1, .ref 2 0), (2, .ref 4 0), (3, .ref 6 0), (17, .t (.slice .any 3 (p.opens.map encOpn))), (18, .t (.int .i64 ((p.opens.map encOpn).length : Int))), (19, .t (.int .i64 i))])
    (fun i => [(80, .grow 3 ((p.opens.take i).map encOpn)), (90, .grow 4 []), (6, .cells [.t (.int .i64 p.start), .t (.int .i64 p.fin), .row 28 5 0 (p.rows.map encRow).length, .row 80 3 0 ((p.opens.take i).map encOpn).length, .row 90 4 0 0]), (28, .grow 5 (p.rows.map encRow)), (4, .cells (liftT ti41.zero)), (2, .cells (liftT (encPart p)))]) (fun i => p.opens.length - i) 0 (by simp) ?_ ?_
  · exact at_of [] (sub_eq rfl rfl (sub_eq rfl rfl (sub_eq rfl rfl (sub_eq rfl rfl (sub_eq rfl rfl (sub_eq rfl rfl sub_nil)))))) rfl
  rintro i hi
  by_cases hlt : i < p.opens.length
  · have hr : p.opens[i]? = some p.opens[i] := List.getElem?_eq_getElem hlt
    have hsr := h3 p.opens[i] (List.getElem_mem hlt)
    generalize p.opens[i] = r at hr hsr
    repeat' (first | refine w_stepZ progOk rfl rfl rfl rfl rfl ?_ | refine w_step progOk rfl rfl rfl ?_ | refine w_nil ?_ | refine w_seq ?_ | refine w_reg progOk rfl rfl ?_ | (refine w_condP rfl (ht := fun h => ?_) (hf := fun h => ?_) <;> try exact prn) | refine w_block ?_ | refine w_skip ?_ | refine w_index progOk rfl rfl rfl rfl rfl rfl rfl (map_get (by assumption)) rfl ?_ | refine w_appRow progOk rfl rfl rfl rfl rfl rfl rfl rfl rfl rfl rfl rfl rfl rfl (by simp [chunk]; omega) ?_ | refine w_regD (id := 5) (m := 5) progOk (by kernel_rfl) rfl rfl rfl rfl ?_ | refine s_step rfl rfl rfl rfl ?_ | refine s_call rfl rfl rfl rfl rfl (ownOpen_ok r hsr) rfl rfl ?_ | fail)
    refine w_next (i + 1) hlt (by omega) [5] (sub_eq rfl rfl (sub_eq rfl rfl (sub_eq rfl rfl (sub_eq rfl rfl (sub_eq rfl rfl (sub_eq rfl (by rw [wrap64 (by omega) (by omega)]; rfl) sub_nil)))))) ?_
    have ht : (p.opens.take (i + 1)).map encOpn = (p.opens.take i).map encOpn ++ [encOpn r] := by rw [take_succ hr]; simp
    rw [ht]; rfl
  · repeat' (first | refine w_step progOk rfl rfl rfl ?_ | refine w_nil ?_ | refine w_seq ?_ | refine w_reg progOk rfl rfl ?_ | (refine w_condP rfl (ht := fun h => ?_) (hf := fun h => ?_) <;> try exact prn) | refine w_block ?_ | refine w_exit ?_ | fail)
    have hto : p.opens.take i = p.opens := List.take_of_length_le (by omega)
    rw [hto]
    refine Tr.swapS rfl ?_
    refine w_loop (ι := Nat) (fun i => i ≤ p.prods.length) (fun i => [(2, .ref 4 0), (3, .ref 6 0), (32, .t (.slice .any 4 (p.prods.map encProd))), (33, .t (.int .i64 ((p.prods.map encProd).length : Int))), (34, .t (.int .i64 i))])
      (fun i => [(90, .grow 4 ((p.prods.take i).map encProd)), (80, .grow 3 (p.opens.map encOpn)), (6, .cells [.t (.int .i64 p.start), .t (.int .i64 p.fin), .row 28 5 0 (p.rows.map encRow).length, .row 80 3 0 (p.opens.map encOpn).length, .row 90 4 0 ((p.prods.take i).map encProd).length]), (28, .grow 5 (p.rows.map encRow)), (4, .cells (liftT ti41.zero)), (2, .cells (liftT (encPart p)))]) (fun i => p.prods.length - i) 0 (by simp) ?_ ?_
    · exact at_of [] (sub_eq rfl rfl (sub_eq rfl rfl (sub_eq rfl rfl (sub_eq rfl rfl (sub_eq rfl rfl sub_nil))))) rfl
    rintro j hj
    by_cases hlj : j < p.prods.length
    · have hr : p.prods[j]? = some p.prods[j] := List.getElem?_eq_getElem hlj
      have hsr := h5 p.prods[j] (List.getElem_mem hlj)
      generalize p.prods[j] = r at hr hsr
      repeat' (first | refine w_stepZ progOk rfl rfl rfl rfl rfl ?_ | refine w_step progOk rfl rfl rfl ?_ | refine w_nil ?_ | refine w_seq ?_ | refine w_reg progOk rfl rfl ?_ | (refine w_condP rfl (ht := fun h => ?_) (hf := fun h => ?_) <;> try exact prn) | refine w_block ?_ | refine w_skip ?_ | refine w_index progOk rfl rfl rfl rfl rfl rfl rfl (map_get (by assumption)) rfl ?_ | refine w_appRow progOk rfl rfl rfl rfl rfl rfl rfl rfl rfl rfl rfl rfl rfl rfl (by simp [chunk]; omega) ?_ | refine w_call progOk rfl rfl rfl rfl rfl rfl rfl (cloneSeen_ok r.seen hsr) rfl rfl ?_ | fail)
      refine w_next (j + 1) hlj (by omega) [7] (sub_eq rfl rfl (sub_eq rfl rfl (sub_eq rfl rfl (sub_eq rfl rfl (sub_eq rfl (by rw [wrap64 (by omega) (by omega)]; rfl) sub_nil))))) ?_
      have ht : (p.prods.take (j + 1)).map encProd = (p.prods.take j).map encProd ++ [encProd r] := by rw [take_succ hr]; simp
      rw [ht]; rfl
    · repeat' (first | refine w_stepZ progOk rfl rfl rfl rfl rfl ?_ | refine w_step progOk rfl rfl rfl ?_ | refine w_nil ?_ | refine w_seq ?_ | refine w_reg progOk rfl rfl ?_ | (refine w_condP rfl (ht := fun h => ?_) (hf := fun h => ?_) <;> try exact prn) | refine w_exit ?_ | refine w_ret ?_ | fail)
      have htp : p.prods.take j = p.prods := List.take_of_length_le (by omega)
      refine w_fin1 [3, 2, 1] rfl rfl ?_ (Sub.of_eq ?_)
      · rw [htp]; rfl
      · rw [htp, List.length_map, hlo, hlp]; rfl
end Go.Proofs.YtpdmaenhenfofaaGreatDoor

namespace Go.Proofs.YtpdmaenhenfofaaGreatDoor
open Go.Am
attribute [local irreducible] Decidable.decide
set_option maxRecDepth 100000
set_option maxHeartbeats 1000000
def putS (l : List Prod) (f t : Nat) (p : Prod) : List Prod := l.take f ++ p :: l.drop t
theorem put_prod_ok (l : List Prod) (f t : Nat) (p : Prod) (hl : smallPs l) (hf : f ≤ l.length) (ht : t ≤ l.length) (hp : p.seen.length ≤ 1000000) : Ct Tryz.prog 108 [.t (.slice .any 4 (l.map encProd)), .t (.int .i64 (f : Int)), .t (.int .i64 (t : Int)), .agg (liftT (encProd p))] [] (.t (.slice .any 4 ((putS l f t p).map encProd))) [] := by
  obtain ⟨hl, hsm⟩ := hl
  have hlm : (l.map encProd).length = l.length := List.length_map ..
  have hcn : IntKind.i64.wrap (((l.map encProd).length : Int) + 1) = ((l.length + 1 : Nat) : Int) := by rw [hlm, wrap64 (by omega) (by omega)]; rfl
  refine ct0 progOk Tryz.func108 rfl false rfl rfl ?_
  repeat' (first | refine w_step progOk rfl rfl rfl ?_ | refine w_nil ?_ | refine w_seq ?_ | refine w_reg progOk rfl rfl ?_ | refine w_block ?_ | refine w_make progOk rfl rfl rfl rfl rfl rfl rfl (l := 0) rfl hcn rfl rfl (by omega) (by omega) ?_ | refine w_slice progOk (l := 0) (h := f) rfl rfl rfl rfl rfl rfl (bnd_e rfl rfl) bnd_n (by omega) (by omega) (.inl ⟨rfl, rfl⟩) (show _ = (l.take f).map encProd by simp [List.map_take]) rfl ?_ | fail)
  have hft : ((l.take f).map encProd).length = f := by simp; omega
  refine w_loop (ι := Nat) (fun i => i ≤ f) (fun i => [(0, .t (.slice .any 4 (l.map encProd))), (2, .t (.int .i64 (t : Int))), (7, .ref 14 0), (9, .row 34 4 0 ((l.take i).map encProd).length), (20, .t (.slice .any 4 ((l.take f).map encProd))), (21, .t (.int .i64 (f : Int))), (22, .t (.int .i64 i))]) (fun i => [(34, .grow 4 ((l.take i).map encProd)), (14, .cells (liftT (encProd p)))]) (fun i => f - i) 0 (by simp) ?_ ?_
  · exact at_of [] (sub_eq rfl rfl (sub_eq rfl rfl (sub_eq rfl rfl (sub_eq rfl rfl (sub_eq rfl rfl (sub_eq rfl (by rw [hft]) (sub_eq rfl rfl sub_nil))))))) rfl
  rintro i hi
  by_cases hlt : i < f
  · have hr : (l.take f)[i]? = some (l[i]'(by omega)) := by rw [List.getElem?_take, if_pos hlt]; exact List.getElem?_eq_getElem _
    have hr0 : l[i]? = some (l[i]'(by omega)) := List.getElem?_eq_getElem _
    have hs := hsm (l[i]'(by omega)) (List.getElem_mem _)
    generalize l[i]'(by omega) = r at hr hr0 hs
    repeat' (first | refine w_stepZ progOk rfl rfl rfl rfl rfl ?_ | refine w_step progOk rfl rfl rfl ?_ | refine w_nil ?_ | refine w_seq ?_ | refine w_reg progOk rfl rfl ?_ | (refine w_condP rfl (ht := fun h => ?_) (hf := fun h => ?_) <;> try exact prn) | refine w_block ?_ | refine w_skip ?_ | refine w_index progOk rfl rfl rfl rfl rfl rfl rfl (map_get (by assumption)) rfl ?_ | refine w_appRow progOk rfl rfl rfl rfl rfl rfl rfl rfl rfl rfl rfl rfl rfl rfl (by simp [chunk]; omega) ?_ | refine w_call progOk rfl rfl rfl rfl rfl rfl rfl (copied_ok r hs) rfl rfl ?_ | fail)
    refine w_next (i + 1) hlt (by omega) [11] (sub_eq rfl rfl (sub_eq rfl rfl (sub_eq rfl rfl (sub_eq rfl ?_ (sub_eq rfl rfl (sub_eq rfl rfl (sub_eq rfl (by rw [wrap64 (by omega) (by omega)]; rfl) sub_nil))))))) ?_
    · rw [take_succ hr0]; simp [chunk]; rfl
    · rw [take_succ hr0]; simp only [List.map_append, List.map_cons, List.map_nil]; rfl
  · have hif : i = f := by omega
    subst hif
    repeat' (first | refine w_stepZ progOk rfl rfl rfl rfl rfl ?_ | refine w_step progOk rfl rfl rfl ?_ | refine w_nil ?_ | refine w_seq ?_ | refine w_reg progOk rfl rfl ?_ | (refine w_condP rfl (ht := fun h => ?_) (hf := fun h => ?_) <;> try exact prn) | refine w_block ?_ | refine w_exit ?_ | refine w_appRow progOk rfl rfl rfl rfl rfl rfl rfl rfl rfl rfl rfl rfl rfl rfl (by simp [chunk]; omega) ?_ | refine w_call progOk rfl rfl rfl rfl rfl rfl rfl (copied_ok p hp) rfl rfl ?_ | refine w_slice progOk (l := t) (h := (l.map encProd).length) rfl rfl rfl rfl rfl rfl bnd_n (bnd_e rfl rfl) (by omega) (by omega) (.inl ⟨rfl, rfl⟩) (show _ = (l.drop t).map encProd by rw [← List.map_drop, List.take_of_length_le (by simp)]) rfl ?_ | fail)
    have hdt : ((l.drop t).map encProd).length = l.length - t := by simp
    have e0 : (l.take i).map encProd ++ [encProd p] = ((l.take i ++ p :: (l.drop t).take 0)).map encProd := by simp
    refine w_loop (ι := Nat) (fun j => j ≤ l.length - t) (fun j => [(9, .row 34 4 0 ((l.take i ++ p :: (l.drop t).take j).map encProd).length), (39, .t (.slice .any 4 ((l.drop t).map encProd))), (40, .t (.int .i64 ((l.length - t : Nat) : Int))), (41, .t (.int .i64 j))]) (fun j => [(34, .grow 4 ((l.take i ++ p :: (l.drop t).take j).map encProd)), (14, .cells (liftT (encProd p)))]) (fun j => l.length - t - j) 0 (by simp) ?_ ?_
    · exact at_of [] (sub_eq rfl (by rw [← e0]; rfl) (sub_eq rfl rfl (sub_eq rfl (by rw [hdt]) (sub_eq rfl rfl sub_nil)))) (by rw [← e0]; rfl)
    rintro j hj
    by_cases hlj : j < l.length - t
    · have hr : (l.drop t)[j]? = some (l[t + j]'(by omega)) := by rw [List.getElem?_drop]; exact List.getElem?_eq_getElem _
      have hs := hsm (l[t + j]'(by omega)) (List.getElem_mem _)
      generalize l[t + j]'(by omega) = r at hr hs
      have e1 : (l.take i ++ p :: (l.drop t).take (j + 1)).map encProd = (l.take i ++ p :: (l.drop t).take j).map encProd ++ [encProd r] := by rw [take_succ hr]; simp
      repeat' (first | refine w_stepZ progOk rfl rfl rfl rfl rfl ?_ | refine w_step progOk rfl rfl rfl ?_ | refine w_nil ?_ | refine w_seq ?_ | refine w_reg progOk rfl rfl ?_ | (refine w_condP rfl (ht := fun h => ?_) (hf := fun h => ?_) <;> try exact prn) | refine w_block ?_ | refine w_skip ?_ | refine w_index progOk rfl rfl rfl rfl rfl rfl rfl (map_get (by assumption)) rfl ?_ | refine w_appRow progOk rfl rfl rfl rfl rfl rfl rfl rfl rfl rfl rfl rfl rfl rfl (by simp [chunk]; omega) ?_ | refine w_call progOk rfl rfl rfl rfl rfl rfl rfl (copied_ok r hs) rfl rfl ?_ | fail)
      refine w_next (j + 1) hlj (by omega) [13] (sub_eq rfl ?_ (sub_eq rfl rfl (sub_eq rfl rfl (sub_eq rfl (by rw [wrap64 (by omega) (by omega)]; rfl) sub_nil)))) ?_
      · rw [e1]; rfl
      · rw [e1]; rfl
    · repeat' (first | refine w_step progOk rfl rfl rfl ?_ | refine w_nil ?_ | refine w_seq ?_ | refine w_reg progOk rfl rfl ?_ | (refine w_condP rfl (ht := fun h => ?_) (hf := fun h => ?_) <;> try exact prn) | refine w_exit ?_ | refine w_ret ?_ | fail)
      refine w_fin rfl (Sub.of_eq ?_)
      have htj : (l.drop t).take j = l.drop t := List.take_of_length_le (by rw [List.length_drop]; omega)
      rw [htj]
      simp only [frzA, putS, Nat.beq_refl, cond_true, if_true]
      simp
      exact List.take_of_length_le (by simp)
def setS (l : List Prod) (p : Prod) : List Prod := match l.findIdx? (fun x => decide (x.pid ≥ p.pid)) with
  | some i => if (l[i]?.map Prod.pid) = some p.pid then putS l i (i + 1) p else putS l i i p
  | none => putS l l.length l.length p
theorem setPid_ok (p x : Prod) : Ct Tryz.prog 178 (.agg (liftT (encProd x)) :: liftT [.ptr (encProd p)]) [] (.t (.bool (decide (x.pid ≥ p.pid)))) [] := by
  refine ct0 progOk Tryz.func178 rfl false rfl rfl ?_
  repeat' (first | refine w_step progOk rfl rfl rfl ?_ | refine w_nil ?_ | refine w_seq ?_ | refine w_reg progOk rfl rfl ?_ | refine w_ret ?_ | fail)
  exact w_fin rfl (Sub.refl _)
theorem set_ok (l : List Prod) (p : Prod) (hl : smallPs l) (hp : p.seen.length ≤ 1000000) : Ct Tryz.prog 129 [.t (.slice .any 4 (l.map encProd)), .agg (liftT (encProd p))] [] (.t (.slice .any 4 ((setS l p).map encProd))) [] := by
  have hlen := hl.1
  have cf := firstProd_ok 178 [.ptr (encProd p)] (fun x => decide (x.pid ≥ p.pid)) l (by omega) (setPid_ok p) rfl
  refine ct0 progOk Tryz.func129 rfl false rfl rfl ?_
  refine w_seq ?_
  refine w_reg progOk rfl rfl ?_
  repeat' (first | refine w_step progOk rfl rfl rfl ?_ | refine w_nil ?_ | fail)
  refine Tr.freezeBox (cs := encProd p) 3 6 rfl rfl rfl rfl ?_
  cases hh : l.any (fun x => decide (x.pid ≥ p.pid)) with
  | false =>
    rw [hh, fst_none hh] at cf
    have hs : setS l p = putS l l.length l.length p := by
      have : l.findIdx? (fun x => decide (x.pid ≥ p.pid)) = none := by rw [List.findIdx?_eq_none_iff]; intro x hx; have := List.any_eq_false.1 hh x hx; simpa using this
      simp [setS, this]
    have cp := put_prod_ok l l.length l.length p hl (Nat.le_refl _) (Nat.le_refl _) hp
    repeat' (first | refine w_step progOk rfl rfl rfl ?_ | refine w_nil ?_ | refine w_seq ?_ | refine w_reg progOk rfl rfl ?_ | (refine w_gTP rfl rfl rfl rfl rfl (ht := fun h => ?_) (hf := fun h => ?_) <;> try exact prn) | (refine w_condP rfl (ht := fun h => ?_) (hf := fun h => ?_) <;> try exact prn) | refine w_skip ?_ | refine w_ret ?_ | refine w_regD (id := 2) (m := 9) progOk (by kernel_rfl) rfl rfl rfl rfl ?_ | refine s_step rfl rfl rfl rfl ?_ | (refine s_gTP rfl rfl rfl rfl rfl (ht := fun h => ?_) (hf := fun h => ?_) <;> try exact prn) | refine w_call progOk rfl rfl rfl rfl rfl rfl rfl (cf) rfl rfl ?_ | refine w_call progOk rfl rfl rfl rfl rfl rfl rfl (cp) rfl rfl ?_ | fail)
    exact w_fin rfl (Sub.of_eq (by rw [hs]))
  | true =>
    obtain ⟨i, x, hx, hi, _, _⟩ := fst_get hh
    rw [hh, hi] at cf
    have hlt := (List.getElem?_eq_some_iff.1 hx).1
    have hfi : l.findIdx? (fun x => decide (x.pid ≥ p.pid)) = some i := by
      unfold fstI at hi
      cases hf : l.findIdx? (fun x => decide (x.pid ≥ p.pid)) with
      | none => rw [hf] at hi; simp at hi; omega
      | some j => rw [hf] at hi; simp at hi; exact congrArg some (by omega)
    have cp0 := put_prod_ok l i i p hl (by omega) (by omega) hp
    have cp1 := put_prod_ok l i (i + 1) p hl (by omega) (by omega) hp
    have hw : IntKind.i64.wrap ((i : Int) + 1) = ((i + 1 : Nat) : Int) := by rw [wrap64 (by omega) (by omega)]; rfl
    repeat' (first | refine w_step progOk rfl rfl rfl ?_ | refine w_nil ?_ | refine w_seq ?_ | refine w_reg progOk rfl rfl ?_ | (refine w_gTP rfl rfl rfl rfl rfl (ht := fun h => ?_) (hf := fun h => ?_) <;> try exact prn) | (refine w_condP rfl (ht := fun h => ?_) (hf := fun h => ?_) <;> try exact prn) | refine w_skip ?_ | refine w_ret ?_ | refine w_regD (id := 2) (m := 9) progOk (by kernel_rfl) rfl rfl rfl rfl ?_ | refine s_step rfl rfl rfl rfl ?_ | (refine s_gTP rfl rfl rfl rfl rfl (ht := fun h => ?_) (hf := fun h => ?_) <;> try exact prn) | refine s_index rfl rfl rfl rfl rfl rfl rfl (map_get (by assumption)) rfl ?_ | refine w_call progOk rfl rfl rfl rfl rfl rfl rfl (cf) rfl rfl ?_ | refine w_call progOk rfl rfl rfl rfl rfl rfl rfl (cp0) rfl rfl ?_ | refine w_call progOk rfl rfl rfl rfl rfl rfl rfl (hw ▸ cp1) rfl rfl ?_ | fail)
    all_goals (refine w_fin rfl (Sub.of_eq ?_); simp_all [setS])
end Go.Proofs.YtpdmaenhenfofaaGreatDoor
