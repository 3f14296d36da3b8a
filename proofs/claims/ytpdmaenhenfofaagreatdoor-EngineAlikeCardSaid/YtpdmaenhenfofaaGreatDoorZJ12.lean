/- Contracts and laws, joined: Qu, Qv, Qw, Qx, Qy. No condition beside those that each theorem names. -/
import Derived.Test.YtpdmaenhenfofaaGreatDoorZM10
import Derived.Test.YtpdmaenhenfofaaGreatDoorZM11
import Derived.Test.YtpdmaenhenfofaaGreatDoorZJ11
import Derived.Test.YtpdmaenhenfofaaGreatDoorZJ10
import Derived.Test.YtpdmaenhenfofaaGreatDoorZIm
set_option linter.unusedVariables false
set_option linter.unusedSimpArgs false
namespace Go.Proofs.YtpdmaenhenfofaaGreatDoor
open Go.Am
attribute [local irreducible] Decidable.decide
set_option maxRecDepth 100000
set_option maxHeartbeats 1000000
def opnP (o : Opn) (blk N : Nat) : List T := [.int .i64 o.pid, .int .i64 o.epoch, .slice (.phys blk N) 5 (o.batches.map encBatch)]
theorem ownOpenP_ok (o : Opn) (hs : smallO o) (hne : o.batches ≠ []) : CtF Tryz.prog 100 [.agg (liftT (encOpn o))] [] (fun _ : Nat × Nat => True) (fun τ => .agg (liftT (opnP o τ.1 τ.2))) (fun τ => [(60, .rights [(τ.1, τ.2, o.batches.length * 5)])]) := by
  have hlm : (o.batches.map encBatch).length = o.batches.length := List.length_map ..
  have hs1 := hs.1
  refine ctF progOk Tryz.func100 rfl rfl ?_
  repeat' (first | refine w_stepZ progOk rfl rfl rfl rfl rfl ?_ | refine w_step progOk rfl rfl rfl ?_ | refine w_nil ?_ | refine w_seq ?_ | refine w_reg progOk rfl rfl ?_ | refine w_block ?_ | fail)
  refine Tr.nilCell 2 2 40 5 rfl rfl rfl ?_
  refine w_loop (ι := Nat) (fun i => i ≤ o.batches.length) (fun i => [(1, .ref 2 0), (2, .ref 4 0), (9, .t (.slice .any 5 (o.batches.map encBatch))), (10, .t (.int .i64 ((o.batches.map encBatch).length : Int))), (11, .t (.int .i64 i))]) (fun i => [(80, .grow 5 ((o.batches.take i).map encBatch)), (4, .cells (liftT ti105.zero)), (2, .cells [.t (.int .i64 o.pid), .t (.int .i64 o.epoch), .row 80 5 0 ((o.batches.take i).map encBatch).length])]) (fun i => o.batches.length - i) 0 (by simp) ?_ ?_
  · exact at_of [] (sub_eq rfl rfl (sub_eq rfl rfl (sub_eq rfl rfl (sub_eq rfl rfl (sub_eq rfl rfl sub_nil))))) rfl
  rintro i hi
  by_cases hlt : i < o.batches.length
  · have hr : o.batches[i]? = some o.batches[i] := List.getElem?_eq_getElem hlt
    have hsr := hs.2 o.batches[i] (List.getElem_mem hlt)
    generalize o.batches[i] = r at hr hsr
    repeat' (first | refine w_stepZ progOk rfl rfl rfl rfl rfl ?_ | refine w_step progOk rfl rfl rfl ?_ | refine w_nil ?_ | refine w_seq ?_ | refine w_reg progOk rfl rfl ?_ | (refine w_condP rfl (ht := fun h => ?_) (hf := fun h => ?_) <;> try exact prn) | refine w_block ?_ | refine w_skip ?_ | refine w_index progOk rfl rfl rfl rfl rfl rfl rfl (map_get (by assumption)) rfl ?_ | refine w_appRow progOk rfl rfl rfl rfl rfl rfl rfl rfl rfl rfl rfl rfl rfl rfl (by simp [chunk]; omega) ?_ | refine w_regD (id := 6) (m := 5) progOk (by kernel_rfl) rfl rfl rfl rfl ?_ | refine s_step rfl rfl rfl rfl ?_ | refine s_call rfl rfl rfl rfl rfl (ownBatch_ok r hsr) rfl rfl ?_ | fail)
    refine w_next (i + 1) hlt (by omega) [5] (sub_eq rfl rfl (sub_eq rfl rfl (sub_eq rfl rfl (sub_eq rfl rfl (sub_eq rfl (by rw [wrap64 (by omega) (by omega)]; rfl) sub_nil))))) ?_
    have ht : (o.batches.take (i + 1)).map encBatch = (o.batches.take i).map encBatch ++ [encBatch r] := by rw [take_succ hr]; simp
    rw [ht]; rfl
  · have hte : o.batches.take i = o.batches := List.take_of_length_le (by omega)
    rw [hte]
    refine Tr.newRights 30 rfl ?_
    have hne' : o.batches.map encBatch ≠ [] := by simpa using hne
    repeat' (first | refine o_frzP 23 80 60 (y := .agg [.t (.int .i64 o.pid), .t (.int .i64 o.epoch), .row 80 5 0 (o.batches.map encBatch).length]) (fun blk N => .agg (liftT (opnP o blk N))) (fun blk N => [(blk, N, o.batches.length * 5)]) rfl rfl rfl hne' rfl (fun blk N => ps_agg ⟨ps_t, ps_t, ps_row rfl, trivial⟩) (fun blk N _ => ⟨by simp, fun q hq => .inl (by rw [hlm]; simpa using hq)⟩) (fun blk N _ => ?_) | refine w_stepZ progOk rfl rfl rfl rfl rfl ?_ | refine w_step progOk rfl rfl rfl ?_ | refine w_nil ?_ | refine w_seq ?_ | refine w_reg progOk rfl rfl ?_ | (refine w_condP rfl (ht := fun h => ?_) (hf := fun h => ?_) <;> try exact prn) | refine w_exit ?_ | fail)
    refine w_ret ?_
    exact w_finF (_, _) trivial [2, 1] rfl rfl rfl (Sub.refl _)
def tgO (l : List Opn) (k : Nat) (τ : Nat × Nat) (o : Opn) (i : Nat) : List (List T) := ((l.take i).map encOpn).set k (opnP o τ.1 τ.2)
theorem tgO_at {l : List Opn} {k : Nat} {o : Opn} (h : l[k]? = some o) (τ : Nat × Nat) : tgO l k τ o (k + 1) = (l.take k).map encOpn ++ [opnP o τ.1 τ.2] := by
  have hlt := (List.getElem?_eq_some_iff.1 h).1
  have hl : ((l.take k).map encOpn).length = k := by simp; omega
  unfold tgO
  rw [take_succ h, List.map_append, List.set_append_right _ _ (by omega), hl]
  simp
theorem tgO_succ {l : List Opn} {k i : Nat} {o r : Opn} (hr : l[i]? = some r) (hk : k < i) (τ : Nat × Nat) : tgO l k τ o (i + 1) = tgO l k τ o i ++ [encOpn r] := by
  have hlt := (List.getElem?_eq_some_iff.1 hr).1
  have hl : ((l.take i).map encOpn).length = i := by simp; omega
  unfold tgO
  rw [take_succ hr, List.map_append, List.set_append_left _ _ (by omega)]
  simp
theorem tgO_len {l : List Opn} {k i : Nat} {o : Opn} {τ : Nat × Nat} (hi : i ≤ l.length) : (tgO l k τ o i).length = i := by simp [tgO]; omega
theorem ownI_ok (p : Part) (hs : smallPart p) (k : Nat) (o : Opn) (hk : p.opens[k]? = some o) (hne : o.batches ≠ []) : CtF Tryz.prog 53 [.agg (liftT (encPart p))] [] (fun _ : Nat × Nat => True) (fun _ => .agg [.t (.int .i64 p.start), .t (.int .i64 p.fin), .row 28 5 0 p.rows.length, .row 80 3 0 p.opens.length, .row 90 4 0 p.prods.length]) (fun τ => [(90, .grow 4 (p.prods.map encProd)), (80, .grow 3 (tgO p.opens k τ o p.opens.length)), (28, .grow 5 (p.rows.map encRow)), (52, .rights [(τ.1, τ.2, o.batches.length * 5)])]) := by
  obtain ⟨h1, h2, h3, h4, h5⟩ := hs
  have hlo : (p.opens.map encOpn).length = p.opens.length := List.length_map ..
  have hlp : (p.prods.map encProd).length = p.prods.length := List.length_map ..
  have hklt := (List.getElem?_eq_some_iff.1 hk).1
  have hso := h3 o (List.mem_of_getElem? hk)
  refine ctF progOk Tryz.func53 rfl rfl ?_
  repeat' (first | refine w_stepZ progOk rfl rfl rfl rfl rfl ?_ | refine w_step progOk rfl rfl rfl ?_ | refine w_nil ?_ | refine w_seq ?_ | refine w_reg progOk rfl rfl ?_ | refine w_block ?_ | refine w_regD (id := 1) (m := 9) progOk (by kernel_rfl) rfl rfl rfl rfl ?_ | refine s_step rfl rfl rfl rfl ?_ | refine s_callRow rfl rfl rfl rfl rfl (cloneRow_own p.rows h1) rfl rfl rfl rfl ?_ | fail)
  refine Tr.nilCell 6 4 45 4 rfl rfl rfl ?_
  refine Tr.nilCell 6 3 40 3 rfl rfl rfl ?_
  refine w_loop (ι := Nat ⊕ (Nat × (Nat × Nat))) (fun q => match q with
      | .inl i => i ≤ k
      | .inr (i, _) => k < i ∧ i ≤ p.opens.length)
    (fun q => match q with
      | .inl i => [(1, .ref 2 0), (2, .ref 4 0), (3, .ref 6 0), (17, .t (.slice .any 3 (p.opens.map encOpn))), (18, .t (.int .i64 ((p.opens.map encOpn).length : Int))), (19, .t (.int .i64 i))]
      | .inr (i, _) => [(1, .ref 2 0), (2, .ref 4 0), (3, .ref 6 0), (17, .t (.slice .any 3 (p.opens.map encOpn))), (18, .t (.int .i64 ((p.opens.map encOpn).length : Int))), (19, .t (.int .i64 i))])
    (fun q => match q with
      | .inl i => [(80, .grow 3 ((p.opens.take i).map encOpn)), (90, .grow 4 []), (6, .cells [.t (.int .i64 p.start), .t (.int .i64 p.fin), .row 28 5 0 (p.rows.map encRow).length, .row 80 3 0 ((p.opens.take i).map encOpn).length, .row 90 4 0 0]), (28, .grow 5 (p.rows.map encRow)), (4, .cells (liftT ti41.zero)), (2, .cells (liftT (encPart p)))]
      | .inr (i, τ) => [(80, .grow 3 (tgO p.opens k τ o i)), (90, .grow 4 []), (6, .cells [.t (.int .i64 p.start), .t (.int .i64 p.fin), .row 28 5 0 (p.rows.map encRow).length, .row 80 3 0 (tgO p.opens k τ o i).length, .row 90 4 0 0]), (28, .grow 5 (p.rows.map encRow)), (4, .cells (liftT ti41.zero)), (2, .cells (liftT (encPart p))), (52, .rights [(τ.1, τ.2, o.batches.length * 5)])])
    (fun q => match q with
      | .inl i => p.opens.length - i
      | .inr (i, _) => p.opens.length - i) (.inl 0) (by simp) ?_ ?_
  · exact at_of [] (sub_eq rfl rfl (sub_eq rfl rfl (sub_eq rfl rfl (sub_eq rfl rfl (sub_eq rfl rfl (sub_eq rfl rfl sub_nil)))))) rfl
  rintro (i | ⟨i, τ⟩) hI
  · simp only at hI
    have hlt : i < p.opens.length := by omega
    by_cases hik : i < k
    · have hr : p.opens[i]? = some p.opens[i] := List.getElem?_eq_getElem hlt
      have hsr := h3 p.opens[i] (List.getElem_mem hlt)
      generalize p.opens[i] = r at hr hsr
      repeat' (first | refine w_stepZ progOk rfl rfl rfl rfl rfl ?_ | refine w_step progOk rfl rfl rfl ?_ | refine w_nil ?_ | refine w_seq ?_ | refine w_reg progOk rfl rfl ?_ | (refine w_condP rfl (ht := fun h => ?_) (hf := fun h => ?_) <;> try exact prn) | refine w_block ?_ | refine w_skip ?_ | refine w_index progOk rfl rfl rfl rfl rfl rfl rfl (map_get (by assumption)) rfl ?_ | refine w_appRow progOk rfl rfl rfl rfl rfl rfl rfl rfl rfl rfl rfl rfl rfl rfl (by simp [chunk]; omega) ?_ | refine w_regD (id := 5) (m := 5) progOk (by kernel_rfl) rfl rfl rfl rfl ?_ | refine s_step rfl rfl rfl rfl ?_ | refine s_call rfl rfl rfl rfl rfl (ownOpen_ok r hsr) rfl rfl ?_ | fail)
      refine ⟨.inl (i + 1), hik, (by show p.opens.length - (i + 1) < p.opens.length - i; omega), [5], (sub_eq rfl rfl (sub_eq rfl rfl (sub_eq rfl rfl (sub_eq rfl rfl (sub_eq rfl rfl (sub_eq rfl (by rw [wrap64 (by omega) (by omega)]; rfl) sub_nil)))))), ?_⟩
      have ht : (p.opens.take (i + 1)).map encOpn = (p.opens.take i).map encOpn ++ [encOpn r] := by rw [take_succ hr]; simp
      simp only [ht]; rfl
    · obtain rfl : i = k := by omega
      repeat' (first | refine w_stepZ progOk rfl rfl rfl rfl rfl ?_ | refine w_step progOk rfl rfl rfl ?_ | refine w_nil ?_ | refine w_seq ?_ | refine w_reg progOk rfl rfl ?_ | (refine w_condP rfl (ht := fun h => ?_) (hf := fun h => ?_) <;> try exact prn) | refine w_block ?_ | refine w_skip ?_ | refine w_index progOk rfl rfl rfl rfl rfl rfl rfl (map_get (by assumption)) rfl ?_ | fail)
      refine w_pin (ι := Nat × Nat) (fun _ => True) (fun τ => [(1, .ref 2 0), (2, .ref 4 0), (3, .ref 6 0), (17, .t (.slice .any 3 (p.opens.map encOpn))), (18, .t (.int .i64 ((p.opens.map encOpn).length : Int))), (19, .t (.int .i64 i))])
        (fun τ => [(80, .grow 3 (tgO p.opens i τ o (i + 1))), (52, .rights [(τ.1, τ.2, o.batches.length * 5)]), (90, .grow 4 []), (6, .cells [.t (.int .i64 p.start), .t (.int .i64 p.fin), .row 28 5 0 (p.rows.map encRow).length, .row 80 3 0 (tgO p.opens i τ o (i + 1)).length, .row 90 4 0 0]), (28, .grow 5 (p.rows.map encRow)), (4, .cells (liftT ti41.zero)), (2, .cells (liftT (encPart p)))]) (fun _ _ h => h) ?_ ?_
      · refine w_regAny progOk rfl rfl ?_
        repeat' (first | refine w_stepZ progOk rfl rfl rfl rfl rfl ?_ | refine w_step progOk rfl rfl rfl ?_ | refine w_nil ?_ | refine w_appRow progOk rfl rfl rfl rfl rfl rfl rfl rfl rfl rfl rfl rfl rfl rfl (by simp [chunk]; omega) ?_ | refine any_0 rfl ?_ | refine any_1 rfl rfl ?_ | refine any_2 rfl rfl rfl ?_ ?_ | refine w_callF progOk [] [(60, 52)] rfl rfl rfl rfl rfl (ownOpenP_ok o hso hne) rfl (fun _ _ => rfl) (fun _ _ => rfl) (fun _ _ => rfl) (fun τ _ => ?_) | fail)
        all_goals (refine pin_at τ trivial [5] (sub_eq rfl rfl (sub_eq rfl rfl (sub_eq rfl rfl (sub_eq rfl rfl (sub_eq rfl rfl (sub_eq rfl rfl sub_nil)))))) ?_; simp only [tgO_at hk]; rfl)
      · rintro τ _
        refine Tr.swapS rfl ?_
        refine Tr.rotS rfl ?_
        repeat' (first | refine w_step progOk rfl rfl rfl ?_ | refine w_nil ?_ | refine w_reg progOk rfl rfl ?_ | fail)
        refine ⟨.inr (i + 1, τ), ⟨by omega, by omega⟩, (by show p.opens.length - (i + 1) < p.opens.length - i; omega), [], (sub_eq rfl rfl (sub_eq rfl rfl (sub_eq rfl rfl (sub_eq rfl rfl (sub_eq rfl rfl (sub_eq rfl (by rw [wrap64 (by omega) (by omega)]; rfl) sub_nil)))))), rfl⟩
  · obtain ⟨hki, hin⟩ := hI
    by_cases hlt : i < p.opens.length
    · have hr : p.opens[i]? = some p.opens[i] := List.getElem?_eq_getElem hlt
      have hsr := h3 p.opens[i] (List.getElem_mem hlt)
      generalize p.opens[i] = r at hr hsr
      have hgl : (tgO p.opens k τ o i).length = i := tgO_len hin
      repeat' (first | refine w_stepZ progOk rfl rfl rfl rfl rfl ?_ | refine w_step progOk rfl rfl rfl ?_ | refine w_nil ?_ | refine w_seq ?_ | refine w_reg progOk rfl rfl ?_ | (refine w_condP rfl (ht := fun h => ?_) (hf := fun h => ?_) <;> try exact prn) | refine w_block ?_ | refine w_skip ?_ | refine w_index progOk rfl rfl rfl rfl rfl rfl rfl (map_get (by assumption)) rfl ?_ | refine w_appRow progOk rfl rfl rfl rfl rfl rfl rfl rfl rfl rfl rfl rfl rfl rfl (by simp [chunk]; omega) ?_ | refine w_regD (id := 5) (m := 5) progOk (by kernel_rfl) rfl rfl rfl rfl ?_ | refine s_step rfl rfl rfl rfl ?_ | refine s_call rfl rfl rfl rfl rfl (ownOpen_ok r hsr) rfl rfl ?_ | fail)
      refine ⟨.inr (i + 1, τ), ⟨by omega, by omega⟩, (by show p.opens.length - (i + 1) < p.opens.length - i; omega), [5], (sub_eq rfl rfl (sub_eq rfl rfl (sub_eq rfl rfl (sub_eq rfl rfl (sub_eq rfl rfl (sub_eq rfl (by rw [wrap64 (by omega) (by omega)]; rfl) sub_nil)))))), ?_⟩
      simp only [tgO_succ hr hki]; rfl
    · obtain rfl : i = p.opens.length := by omega
      have hgl : (tgO p.opens k τ o p.opens.length).length = p.opens.length := tgO_len (Nat.le_refl _)
      repeat' (first | refine w_step progOk rfl rfl rfl ?_ | refine w_nil ?_ | refine w_seq ?_ | refine w_reg progOk rfl rfl ?_ | (refine w_condP rfl (ht := fun h => ?_) (hf := fun h => ?_) <;> try exact prn) | refine w_block ?_ | refine w_exit ?_ | fail)
      refine Tr.swapS rfl ?_
      refine w_loop (ι := Nat) (fun i => i ≤ p.prods.length) (fun i => [(2, .ref 4 0), (3, .ref 6 0), (32, .t (.slice .any 4 (p.prods.map encProd))), (33, .t (.int .i64 ((p.prods.map encProd).length : Int))), (34, .t (.int .i64 i))])
        (fun i => [(90, .grow 4 ((p.prods.take i).map encProd)), (80, .grow 3 (tgO p.opens k τ o p.opens.length)), (6, .cells [.t (.int .i64 p.start), .t (.int .i64 p.fin), .row 28 5 0 (p.rows.map encRow).length, .row 80 3 0 (tgO p.opens k τ o p.opens.length).length, .row 90 4 0 ((p.prods.take i).map encProd).length]), (28, .grow 5 (p.rows.map encRow)), (4, .cells (liftT ti41.zero)), (2, .cells (liftT (encPart p))), (52, .rights [(τ.1, τ.2, o.batches.length * 5)])]) (fun i => p.prods.length - i) 0 (by simp) ?_ ?_
      · exact at_of [] (sub_eq rfl rfl (sub_eq rfl rfl (sub_eq rfl rfl (sub_eq rfl rfl (sub_eq rfl rfl sub_nil))))) rfl
      rintro j hj
      by_cases hlj : j < p.prods.length
      · have hr : p.prods[j]? = some p.prods[j] := List.getElem?_eq_getElem hlj
        have hsr := h5 p.prods[j] (List.getElem_mem hlj)
        generalize p.prods[j] = r at hr hsr
        repeat' (first | refine w_stepZ progOk rfl rfl rfl rfl rfl ?_ | refine w_step progOk rfl rfl rfl ?_ | refine w_nil ?_ | refine w_seq ?_ | refine w_reg progOk rfl rfl ?_ | (refine w_condP rfl (ht := fun h => ?_) (hf := fun h => ?_) <;> try exact prn) | refine w_block ?_ | refine w_skip ?_ | refine w_index progOk rfl rfl rfl rfl rfl rfl rfl (map_get (by assumption)) rfl ?_ | refine w_appRow progOk rfl rfl rfl rfl rfl rfl rfl rfl rfl rfl rfl rfl rfl rfl (by simp [chunk]; omega) ?_ | refine w_call progOk rfl rfl rfl rfl rfl rfl rfl (cloneSeen_ok r.seen hsr) rfl rfl ?_ | fail)
        refine w_next (j + 1) hlj (by omega) [7] (sub_eq rfl rfl (sub_eq rfl rfl (sub_eq rfl rfl (sub_eq rfl rfl (sub_eq rfl (by rw [wrap64 (by omega) (by omega)]; rfl) sub_nil))))) ?_
        have ht : (p.prods.take (j + 1)).map encProd = (p.prods.take j).map encProd ++ [encProd r] := by rw [take_succ hr]; simp
        rw [ht]; rfl
      · repeat' (first | refine w_stepZ progOk rfl rfl rfl rfl rfl ?_ | refine w_step progOk rfl rfl rfl ?_ | refine w_nil ?_ | refine w_seq ?_ | refine w_reg progOk rfl rfl ?_ | (refine w_condP rfl (ht := fun h => ?_) (hf := fun h => ?_) <;> try exact prn) | refine w_exit ?_ | fail)
        have htp : p.prods.take j = p.prods := List.take_of_length_le (by omega)
        refine w_ret ?_
        refine w_finF τ trivial [3, 2, 1] rfl rfl ?_ (Sub.of_eq ?_)
        · rw [htp]; rfl
        · rw [htp, List.length_map, hgl, hlp]; rfl
end Go.Proofs.YtpdmaenhenfofaaGreatDoor

namespace Go.Proofs.YtpdmaenhenfofaaGreatDoor
open Go.Am
attribute [local irreducible] Decidable.decide
set_option maxRecDepth 100000
set_option maxHeartbeats 1000000
theorem insEnd_ok (es : List (List T)) (x : List T) (hlim : es.length ≤ 1000000) : Ct Tryz.prog 127 [.row 1 3 0 es.length, .t (.int .i64 (es.length : Int)), .t (.slice .full 3 [x])] [(1, .grow 3 es)] (.row 1 3 0 (es ++ [x]).length) [(1, .grow 3 (es ++ [x]))] := by
  refine ct1 progOk Tryz.func127 rfl rfl ?_
  repeat' (first | refine w_step progOk rfl rfl rfl ?_ | refine w_nil ?_ | refine w_seq ?_ | refine w_reg progOk rfl rfl ?_ | (refine w_condP rfl (ht := fun h => ?_) (hf := fun h => ?_) <;> try exact prn) | refine w_skip ?_ | refine w_appRow progOk rfl rfl rfl rfl rfl rfl rfl rfl rfl rfl rfl rfl rfl rfl (by simp [chunk]; omega) ?_ | refine w_sliceR progOk (l := es.length) (h := es.length) rfl rfl rfl rfl rfl rfl bnd_n (bnd_e rfl rfl) (Nat.le_refl _) (Nat.le_refl _) rfl ?_ | fail)
  · simp at h
  · refine w_ret ?_
    exact w_fin1 [] rfl rfl rfl (Sub.refl _)
theorem lend_row {es : List (List T)} {σ : St} {x : T} (h : Am.look σ 1 = some (.grow 3 es)) : lendL σ [.row 1 3 0 es.length, .t x] = some [.t (.slice .any 3 es), .t x] := by
  have t1 : es.take es.length = es := List.take_of_length_le (Nat.le_refl _)
  have t2 : es.length.ble es.length = true := by simp
  simp [lendL, lendA, h, t1, t2]
theorem insL_get {α : Type} {l : List α} {i : Nat} {x : α} (h : i ≤ l.length) : (insL l i x)[i]? = some x := by
  unfold insL
  rw [List.getElem?_append_right (by rw [List.length_take]; omega)]
  simp [List.length_take, Nat.min_eq_left h]
theorem srt_drop {l : List Opn} (h : Srt Opn.pid l) {i : Nat} {r : Opn} (hr : l[i]? = some r) {k : Int} (hk : k < r.pid) : ∀ o ∈ l.drop i, k < o.pid := fun o ho => by
  have hd : Srt Opn.pid (l.drop i) := List.Pairwise.sublist (List.drop_sublist i l) h
  rw [drop_cons hr] at ho hd
  rcases List.mem_cons.1 ho with rfl | ho
  · exact hk
  · have := (List.pairwise_cons.1 hd).1 o ho; omega
theorem ins_at {l : List Opn} {i : Nat} {x : Opn} (h1 : ∀ o ∈ l.take i, o.pid < x.pid) (h2 : ∀ o ∈ l.drop i, x.pid < o.pid) : (insF Opn.pid x l).map encOpn = (l.take i).map encOpn ++ encOpn x :: (l.drop i).map encOpn := by
  obtain ⟨q1, q2⟩ := filter_split (f := Opn.pid) h1 (fun o ho => Int.le_of_lt (h2 o ho))
  rw [List.take_append_drop] at q1 q2
  have q3 : (l.drop i).filter (fun y => decide (x.pid < y.pid)) = l.drop i := List.filter_eq_self.2 fun o ho => by simpa using h2 o ho
  rw [q3] at q2
  unfold insF
  rw [q1, q2]
  simp
theorem insL_set {α : Type} {l : List α} {i : Nat} {x y : α} (h : i ≤ l.length) : (insL l i x).set (0 + i) y = l.take i ++ y :: l.drop i := by
  unfold insL
  have hl : (l.take i).length = i := by rw [List.length_take]; omega
  rw [Nat.zero_add, List.set_append_right _ _ (by omega), hl]
  simp
abbrev opn0 (b : Batch) : List T := [.int .i64 b.pid, .int .i64 b.epoch, .slice .nil 0 []]
/- no transaction of the producer is open -/
theorem joinN_ok (l : List Opn) (b : Batch) (hl : l.length ≤ 1000000) (hsrt : Srt Opn.pid l) (hno : ∀ o ∈ l, o.pid ≠ b.pid) (hb : b.recs.length ≤ 1000000) :
    Ct Tryz.prog 72 [.row 1 3 0 (l.map encOpn).length, .agg (liftT (encBatch b))] [(1, .grow 3 (l.map encOpn))] (.row 1 3 0 (l.length + 1)) [(1, .grow 3 ((insF Opn.pid ⟨b.pid, b.epoch, [b]⟩ l).map encOpn))] := by
  have hlm : (l.map encOpn).length = l.length := List.length_map ..
  have cf := enfind_ok l b.pid hl
  have hany : l.any (fun o => decide (o.pid = b.pid)) = false := by rw [List.any_eq_false]; intro o ho; simpa using hno o ho
  rw [hany] at cf
  refine ct1 progOk Tryz.func72 rfl rfl ?_
  repeat' (first | refine w_step progOk rfl rfl rfl ?_ | refine w_nil ?_ | refine w_seq ?_ | refine w_reg progOk rfl rfl ?_ | (refine w_condP rfl (ht := fun h => ?_) (hf := fun h => ?_) <;> try exact prn) | refine w_block ?_ | refine w_callLend progOk rfl rfl rfl (lend_row rfl) cf rfl rfl ?_ | fail)
  refine w_loop (ι := Nat) (fun i => i ≤ l.length ∧ ∀ o ∈ l.take i, o.pid < b.pid) (fun i => [(0, .row 1 3 0 (l.map encOpn).length), (3, .ref 6 0), (5, .t (.int .i64 i))]) (fun _ => [(6, .cells (liftT (encBatch b))), (1, .grow 3 (l.map encOpn))]) (fun i => l.length - i) 0 (by simp) ?_ ?_
  · exact at_of [] (sub_eq rfl rfl (sub_eq rfl rfl (sub_eq rfl rfl sub_nil))) rfl
  rintro i ⟨hi, hall⟩
  by_cases hlt : i < l.length
  · have hr : l[i]? = some l[i] := List.getElem?_eq_getElem hlt
    generalize l[i] = r at hr
    have hge : (l.map encOpn)[0 + i]? = some (encOpn r) := by rw [Nat.zero_add]; exact map_get hr
    repeat' (first | refine w_bsRow progOk rfl rfl rfl rfl rfl rfl rfl rfl ?_ | refine w_step progOk rfl rfl rfl ?_ | refine w_nil ?_ | refine w_seq ?_ | refine w_reg progOk rfl rfl ?_ | (refine w_gTP rfl rfl rfl rfl rfl (ht := fun h => ?_) (hf := fun h => ?_) <;> try exact prn) | (refine w_condP rfl (ht := fun h => ?_) (hf := fun h => ?_) <;> try exact prn) | refine w_block ?_ | refine w_skip ?_ | refine w_exit ?_ | refine w_regD (id := 4) (m := 12) progOk (by kernel_rfl) rfl rfl rfl rfl ?_ | refine s_step rfl rfl rfl rfl ?_ | (refine s_gTP rfl rfl rfl rfl rfl (ht := fun h => ?_) (hf := fun h => ?_) <;> try exact prn) | refine s_indexR (kc := i) rfl rfl rfl rfl rfl rfl rfl rfl (by rw [hlm]; exact hlt) rfl ?_ | refine s_loadE rfl rfl rfl rfl rfl rfl hge rfl rfl rfl ?_ | refine w_callR progOk [(1, 1), (78, 3)] [(1, 1), (3, 78)] rfl rfl rfl rfl rfl (insert_ct (l.map encOpn) i _ (by rw [hlm]; exact hlt) (by rw [hlm]; exact hl)) rfl rfl rfl rfl rfl ?_ | fail)
    · refine w_next (i + 1) ⟨by omega, ?_⟩ (by omega) [] (sub_eq rfl rfl (sub_eq rfl rfl (sub_eq rfl (by rw [wrap64 (by omega) (by omega)]; rfl) sub_nil))) rfl
      intro o ho
      rw [take_succ hr] at ho
      rcases List.mem_append.1 ho with ho | ho
      · exact hall o ho
      · simp at ho; subst ho; assumption
    · have hil : (insL (l.map encOpn) i (opn0 b))[0 + i]? = some (opn0 b) := by
        rw [Nat.zero_add]; exact insL_get (by rw [hlm]; omega)
      refine Tr.weak (E := [(0, .row 1 3 0 ((l.map encOpn).length + 1)), (3, .ref 6 0), (5, .t (.int .i64 i))]) (S := [(1, .grow 3 (insL (l.map encOpn) i (opn0 b))), (6, .cells (liftT (encBatch b)))]) ?_ (at_of [39] (sub_eq rfl rfl (sub_eq rfl rfl (sub_eq rfl rfl sub_nil))) rfl)
      generalize hes : insL (l.map encOpn) i (opn0 b) = es at hil
      repeat' (first | refine w_step progOk rfl rfl rfl ?_ | refine w_nil ?_ | refine w_seq ?_ | refine w_reg progOk rfl rfl ?_ | refine w_regD (id := 7) (m := 10) progOk (by kernel_rfl) rfl rfl rfl rfl ?_ | refine s_step rfl rfl rfl rfl ?_ | refine s_nil ?_ | refine s_indexR (kc := i) rfl rfl rfl rfl rfl rfl rfl rfl (by rw [hlm]; omega) rfl ?_ | refine s_loadE rfl rfl rfl rfl rfl rfl hil rfl rfl rfl ?_ | refine w_indexR progOk (kc := i) rfl rfl rfl rfl rfl rfl rfl rfl (by rw [hlm]; omega) rfl ?_ | refine w_storeE progOk (ts := [.slice .any 5 [encBatch b]]) rfl rfl rfl rfl rfl rfl rfl rfl rfl rfl hil rfl rfl ?_ | fail)
      refine w_ret ?_
      refine w_fin1 [3] rfl rfl ?_ (Sub.of_eq (by rw [hlm]; rfl))
      have hgt : ∀ o ∈ l.drop i, b.pid < o.pid := srt_drop hsrt hr (by have := hno r (List.mem_of_getElem? hr); omega)
      show [(1, Blk.grow 3 (es.set (0 + i) (encOpn ⟨b.pid, b.epoch, [b]⟩)))] = _
      rw [ins_at hall hgt, ← hes, insL_set (by rw [hlm]; omega), List.map_take, List.map_drop]
  · have hil : i = l.length := by omega
    subst hil
    have hge : (l.map encOpn ++ [(opn0 b)])[0 + l.length]? = some (opn0 b) := by
      rw [Nat.zero_add, List.getElem?_append_right (by rw [hlm]; exact Nat.le_refl _)]; simp
    have ci := insEnd_ok (l.map encOpn) (opn0 b) (by rw [hlm]; exact hl)
    rw [show (((l.map encOpn).length : Nat) : Int) = (l.length : Int) by rw [hlm]] at ci
    repeat' (first | refine w_stepZ progOk rfl rfl rfl rfl rfl ?_ | refine w_step progOk rfl rfl rfl ?_ | refine w_nil ?_ | refine w_seq ?_ | refine w_reg progOk rfl rfl ?_ | (refine w_gTP rfl rfl rfl rfl rfl (ht := fun h => ?_) (hf := fun h => ?_) <;> try exact prn) | (refine w_condP rfl (ht := fun h => ?_) (hf := fun h => ?_) <;> try exact prn) | refine w_exit ?_ | refine w_regD (id := 4) (m := 12) progOk (by kernel_rfl) rfl rfl rfl rfl ?_ | refine s_step rfl rfl rfl rfl ?_ | (refine s_gTP rfl rfl rfl rfl rfl (ht := fun h => ?_) (hf := fun h => ?_) <;> try exact prn) | refine w_callR progOk [(1, 1)] [(1, 1)] rfl rfl rfl rfl rfl ci rfl rfl rfl rfl rfl ?_ | fail)
    refine Tr.weak (E := [(0, .row 1 3 0 (l.map encOpn ++ [(opn0 b)]).length), (3, .ref 6 0), (5, .t (.int .i64 l.length))]) (S := [(1, .grow 3 (l.map encOpn ++ [(opn0 b)])), (6, .cells (liftT (encBatch b)))]) ?_ (at_of [] (sub_eq rfl rfl (sub_eq rfl rfl (sub_eq rfl rfl sub_nil))) rfl)
    have hel : (l.map encOpn ++ [(opn0 b)]).length = l.length + 1 := by rw [List.length_append, hlm]; rfl
    rw [hel]
    generalize hes : l.map encOpn ++ [(opn0 b)] = es at hge
    repeat' (first | refine w_step progOk rfl rfl rfl ?_ | refine w_nil ?_ | refine w_seq ?_ | refine w_reg progOk rfl rfl ?_ | refine w_regD (id := 7) (m := 10) progOk (by kernel_rfl) rfl rfl rfl rfl ?_ | refine s_step rfl rfl rfl rfl ?_ | refine s_nil ?_ | refine s_indexR (kc := l.length) rfl rfl rfl rfl rfl rfl rfl rfl (by omega) rfl ?_ | refine s_loadE rfl rfl rfl rfl rfl rfl hge rfl rfl rfl ?_ | refine w_indexR progOk (kc := l.length) rfl rfl rfl rfl rfl rfl rfl rfl (by omega) rfl ?_ | refine w_storeE progOk (ts := [.slice .any 5 [encBatch b]]) rfl rfl rfl rfl rfl rfl rfl rfl rfl rfl hge rfl rfl ?_ | fail)
    refine w_ret ?_
    refine w_fin1 [3] rfl rfl ?_ (Sub.refl _)
    show [(1, Blk.grow 3 (es.set (0 + l.length) (encOpn ⟨b.pid, b.epoch, [b]⟩)))] = _
    rw [List.take_of_length_le (Nat.le_refl _)] at hall
    rw [ins_at (i := l.length) (x := ⟨b.pid, b.epoch, [b]⟩) (by rw [List.take_of_length_le (Nat.le_refl _)]; exact hall) (by simp), ← hes, List.take_of_length_le (Nat.le_refl _), List.drop_of_length_le (Nat.le_refl _), Nat.zero_add, List.set_append_right _ _ (by rw [hlm]; exact Nat.le_refl _)]
    simp
end Go.Proofs.YtpdmaenhenfofaaGreatDoor

namespace Go.Proofs.YtpdmaenhenfofaaGreatDoor
open Go.Am
attribute [local irreducible] Decidable.decide
set_option maxRecDepth 100000
set_option maxHeartbeats 1000000
theorem opnP_sub (o : Opn) (blk N : Nat) : SubTs (opnP o blk N) (encOpn o) := ⟨SubT.refl _, SubT.refl _, SubT.any, trivial⟩
theorem tgO_sub {l : List Opn} {k : Nat} {o : Opn} (hk : l[k]? = some o) (τ : Nat × Nat) : SubTss (tgO l k τ o l.length) (l.map encOpn) := by
  unfold tgO
  rw [List.take_of_length_le (Nat.le_refl _)]
  exact SubTss_set (SubTss.refl _) (map_get hk) (opnP_sub o τ.1 τ.2)
theorem tgO_get {l : List Opn} {k : Nat} {o : Opn} (hk : l[k]? = some o) (τ : Nat × Nat) : (tgO l k τ o l.length)[k]? = some (opnP o τ.1 τ.2) := by
  have hlt := (List.getElem?_eq_some_iff.1 hk).1
  unfold tgO
  rw [List.getElem?_set_self (by simp; omega)]
theorem SubTss_set2 : ∀ {l l' : List (List T)} {k : Nat} {x y : List T}, SubTss l l' → SubTs x y → SubTss (l.set k x) (l'.set k y)
  | [], [], _, _, _, _, _ => trivial
  | a :: r, b :: s, 0, x, y, h, hx => ⟨hx, h.2⟩
  | a :: r, b :: s, k + 1, x, y, h, hx => ⟨h.1, SubTss_set2 h.2 hx⟩
  | [], _ :: _, _, _, _, h, _ => h.elim
  | _ :: _, [], _, _, _, h, _ => h.elim
theorem joinF_ok (l : List Opn) (b : Batch) (k : Nat) (o : Opn) (τ : Nat × Nat) (hl : l.length ≤ 1000000) (hk : l[k]? = some o) (hidx : idxOf (fun o => decide (o.pid = b.pid)) l = (k : Int)) (hany : l.any (fun o => decide (o.pid = b.pid)) = true) (hne : o.batches ≠ []) (ho : o.batches.length ≤ 1000000) :
    Ct Tryz.prog 72 [.row 1 3 0 (tgO l k τ o l.length).length, .agg (liftT (encBatch b))] [(1, .grow 3 (tgO l k τ o l.length)), (3, .rights [(τ.1, τ.2, o.batches.length * 5)])] (.row 1 3 0 l.length) [(1, .grow 3 ((l.set k { o with batches := o.batches ++ [b] }).map encOpn)), (3, .rights [])] := by
  have hgl : (tgO l k τ o l.length).length = l.length := tgO_len (Nat.le_refl _)
  have hlt := (List.getElem?_eq_some_iff.1 hk).1
  have hlb : (o.batches.map encBatch).length = o.batches.length := List.length_map ..
  have hne' : o.batches.map encBatch ≠ [] := by simpa using hne
  have cf : Ct Tryz.prog 54 [.t (.slice .any 3 (tgO l k τ o l.length)), .t (.int .i64 b.pid)] [] (.tuple [.t (.int .i64 (idxOf (fun o => decide (o.pid = b.pid)) l)), .t (.bool (l.any (fun o => decide (o.pid = b.pid))))]) [] := (enfind_ok l b.pid hl).args ⟨sub_sl (tgO_sub hk τ), Sub.refl _, trivial⟩
  rw [hany, hidx] at cf
  have hget := tgO_get hk τ
  have hsub := tgO_sub hk τ
  have hset : ∀ y, (tgO l k τ o l.length).set (0 + k) y = (l.map encOpn).set k y := fun y => by unfold tgO; rw [List.take_of_length_le (Nat.le_refl _), Nat.zero_add, List.set_set]
  generalize hes : tgO l k τ o l.length = es at *
  have hge : es[0 + k]? = some (opnP o τ.1 τ.2) := by rw [Nat.zero_add]; exact hget
  refine ct1 progOk Tryz.func72 rfl rfl ?_
  repeat' (first | refine w_step progOk rfl rfl rfl ?_ | refine w_nil ?_ | refine w_seq ?_ | refine w_reg progOk rfl rfl ?_ | (refine w_condP rfl (ht := fun h => ?_) (hf := fun h => ?_) <;> try exact prn) | refine w_skip ?_ | refine w_callLend progOk rfl rfl rfl (lend_row rfl) cf rfl rfl ?_ | fail)
  refine w_pin (ι := Nat × Nat) (fun _ => True) (fun _ => [(0, .row 1 3 0 es.length)]) (fun q => [(6, .cells (liftT (encBatch b))), (1, .grow 3 (es.set (0 + k) [.int .i64 o.pid, .int .i64 o.epoch, .slice (.phys q.1 q.2) 5 (o.batches.map encBatch ++ [encBatch b])])), (3, .rights [])]) (fun _ _ h => h) ?_ ?_
  · refine w_regAnyF progOk [0, 1, 2, 3] 9 (by kernel_rfl) rfl rfl (by rintro ch e s ⟨hx, _⟩; cases hx) ?_
    repeat' (first | refine w_stepZ progOk rfl rfl rfl rfl rfl ?_ | refine w_step progOk rfl rfl rfl ?_ | refine w_nil ?_ | refine any_0 rfl ?_ | refine any_1 rfl rfl ?_ | refine any_2 rfl rfl rfl ?_ ?_ | refine w_indexR progOk (kc := k) rfl rfl rfl rfl rfl rfl rfl rfl (by omega) rfl ?_ | refine w_loadE progOk rfl rfl rfl rfl rfl hge rfl rfl rfl ?_ | refine w_appP progOk 3 rfl rfl rfl rfl rfl rfl rfl rfl rfl rfl rfl rfl (by rw [hlb]; simp) hne' (by simp [chunk]; omega) (fun _ _ => []) (fun _ _ _ => ⟨by simp, by simp⟩) (fun _ _ => rfl) (fun b' N' _ => ?_) | refine w_storeE progOk (ts := [.slice (.phys b' N') 5 (o.batches.map encBatch ++ [encBatch b])]) rfl rfl rfl rfl rfl rfl rfl rfl rfl rfl hge rfl rfl ?_ | fail)
    all_goals exact pin_at (b', N') trivial [] (sub_eq rfl rfl sub_nil) rfl
  · rintro q _
    rw [hset]
    refine Tr.subGrow (es' := (l.set k { o with batches := o.batches ++ [b] }).map encOpn) 1 rfl ?_ ?_
    · rw [List.map_set]
      refine SubTss_set2 (SubTss.refl _) ?_
      exact ⟨SubT.refl _, SubT.refl _, (by rw [List.map_append]; exact SubT.any), trivial⟩
    repeat' (first | refine w_step progOk rfl rfl rfl ?_ | refine w_nil ?_ | refine w_seq ?_ | refine w_reg progOk rfl rfl ?_ | fail)
    refine w_ret ?_
    exact w_fin1 [3] rfl rfl rfl (Sub.of_eq (by rw [hgl]; rfl))
end Go.Proofs.YtpdmaenhenfofaaGreatDoor

namespace Go.Proofs.YtpdmaenhenfofaaGreatDoor
open Go.Am
attribute [local irreducible] Decidable.decide
set_option maxRecDepth 100000
set_option maxHeartbeats 1000000
theorem set_ins {l : List Opn} (h : Srt Opn.pid l) {k : Nat} {o x : Opn} (hk : l[k]? = some o) (hx : x.pid = o.pid) : l.set k x = insF Opn.pid x l := by
  have hlt := (List.getElem?_eq_some_iff.1 hk).1
  have hsp : l = l.take k ++ o :: l.drop (k + 1) := by rw [← drop_cons hk, List.take_append_drop]
  have hs2 : Srt Opn.pid (l.take k ++ o :: l.drop (k + 1)) := hsp ▸ h
  have h1 := List.pairwise_append.1 hs2
  have h3 := (List.pairwise_cons.1 h1.2.1).1
  obtain ⟨q1, q2⟩ := filter_split (f := Opn.pid) (k := x.pid) (a := l.take k) (b := o :: l.drop (k + 1)) (fun y hy => by rw [hx]; exact h1.2.2 y hy o (by simp)) (fun y hy => by
    rcases List.mem_cons.1 hy with rfl | hy
    · omega
    · have := h3 y hy; omega)
  rw [← hsp] at q1 q2
  have q3 : (l.drop (k + 1)).filter (fun y => decide (x.pid < y.pid)) = l.drop (k + 1) := List.filter_eq_self.2 fun y hy => by have := h3 y hy; simp; omega
  rw [List.filter_cons, if_neg (by simp; omega), q3] at q2
  unfold insF
  rw [q1, q2, List.set_eq_take_append_cons_drop, if_pos hlt]
theorem CtF.freezeK {P : Program} {f : Nat} {xs : List AV} {σ : St} {I : Type} {V : I → Prop} {r r' : I → AV} {s s' : I → St} {e : I → Env} (l : I → St) (h : CtF P f xs σ V r s) (hz : ∀ i, frzIn (l i) [r i] [] (s i) = ([r' i], e i, s' i)) : CtF P f xs σ V r' s' := by
  refine ⟨h.1, fun vs w g hrl hi => (h.2 vs w g hrl hi).mono ?_⟩
  rintro ed w' ⟨v, g1, i, rfl, hV, h1, h2, h3⟩
  obtain ⟨g2, k1, k2, k3, _⟩ := frzIn_sound (w := w') (l i) (a := ⟨#[], []⟩) (hz i) h3 (vs := [v]) (RelL.cons h2 RelL.nil) (fun t x hx => by simp [Am.look] at hx)
  exact ⟨v, g2, i, rfl, hV, h1.trans k1, k3.2 0 v (r' i) rfl rfl, k2⟩
def ownA (p : Part) (n : Nat) : AV := .agg [.t (.int .i64 p.start), .t (.int .i64 p.fin), .t (.slice .any 5 (p.rows.map encRow)), .row 80 3 0 n, .t (.slice .any 4 (p.prods.map encProd))]
theorem own4_ok (p : Part) (hs : smallPart p) : Ct Tryz.prog 53 [.agg (liftT (encPart p))] [] (ownA p p.opens.length) [(80, .grow 3 (p.opens.map encOpn))] := by
  refine Ct.freezeK (e := []) [(90, .grow 4 (p.prods.map encProd)), (28, .grow 5 (p.rows.map encRow))] (own_ok p hs) ?_
  have b1 : Nat.beq 28 90 = false := rfl
  have b2 : Nat.beq 80 90 = false := rfl
  have b3 : Nat.beq 80 28 = false := rfl
  have b4 : Nat.beq 90 28 = false := rfl
  have t1 : (p.prods.map encProd).take p.prods.length = p.prods.map encProd := List.take_of_length_le (by simp)
  have t2 : (p.rows.map encRow).take p.rows.length = p.rows.map encRow := List.take_of_length_le (by simp)
  simp [frzIn, ownRows, ownA, Am.look, hasL, AV.has, frzL, frzE, frzA, frzS, b1, b2, b3, b4, t1, t2]
theorem own5_ok (p : Part) (hs : smallPart p) (k : Nat) (o : Opn) (hk : p.opens[k]? = some o) (hne : o.batches ≠ []) : CtF Tryz.prog 53 [.agg (liftT (encPart p))] [] (fun _ : Nat × Nat => True) (fun _ => ownA p p.opens.length) (fun τ => [(80, .grow 3 (tgO p.opens k τ o p.opens.length)), (52, .rights [(τ.1, τ.2, o.batches.length * 5)])]) := by
  refine CtF.freezeK (e := fun _ => []) (fun _ => [(90, .grow 4 (p.prods.map encProd)), (28, .grow 5 (p.rows.map encRow))]) (ownI_ok p hs k o hk hne) fun τ => ?_
  have b1 : Nat.beq 28 90 = false := rfl
  have b2 : Nat.beq 80 90 = false := rfl
  have b3 : Nat.beq 80 28 = false := rfl
  have b4 : Nat.beq 90 28 = false := rfl
  have b5 : Nat.beq 52 28 = false := rfl
  have b6 : Nat.beq 52 90 = false := rfl
  have t1 : (p.prods.map encProd).take p.prods.length = p.prods.map encProd := List.take_of_length_le (by simp)
  have t2 : (p.rows.map encRow).take p.rows.length = p.rows.map encRow := List.take_of_length_le (by simp)
  simp [frzIn, ownA, Am.look, hasL, AV.has, frzL, frzE, frzA, frzS, b1, b2, b3, b4, b5, b6, t1, t2]
theorem insF_len {α : Type} {f : α → Int} {x : α} : ∀ {l : List α}, (∀ o ∈ l, f o ≠ f x) → (insF f x l).length = l.length + 1
  | [], _ => by simp [insF]
  | a :: r, h => by
    have ih := insF_len (f := f) (x := x) (l := r) fun o ho => h o (by simp [ho])
    have ha := h a (by simp)
    simp only [insF, List.length_append, List.length_cons, List.filter_cons] at ih ⊢
    by_cases h1 : f a < f x
    · have h2 : ¬ f x < f a := by omega
      simp only [h1, h2, decide_true, decide_false, if_true, List.length_cons]
      simp only [Bool.false_eq_true, if_false]; omega
    · have h2 : f x < f a := by omega
      simp only [h1, h2, decide_true, decide_false, if_true, List.length_cons]
      simp only [Bool.false_eq_true, if_false]; omega
theorem find_idx {l : List Opn} {pid : Int} {o : Opn} (h : l.find? (fun o => decide (o.pid = pid)) = some o) : ∃ k : Nat, l[k]? = some o ∧ idxOf (fun o => decide (o.pid = pid)) l = (k : Int) ∧ l.any (fun o => decide (o.pid = pid)) = true := by
  have hany : l.any (fun o => decide (o.pid = pid)) = true := List.any_eq_true.2 ⟨o, List.mem_of_find?_eq_some h, (List.find?_some h :)⟩
  obtain ⟨i, x, h1, h2, h3⟩ := find_get hany
  rw [h] at h3; cases h3
  exact ⟨i, h1, h2, hany⟩
theorem produceN_ok (e i : Int) (he : e = 0 ∨ e = 1) (hi0 : i = 0 ∨ i = 1 ∨ i = 2) (p : Part) (b : Batch) (hs : smallPart p) (hf : 0 ≤ p.fin ∧ p.fin ≤ 1048576) (hsrt : Srt Opn.pid p.opens) (hb : mayBatch b = true) (ht : b.txn = true) (hc : ckErr p.prods b = 0) (hi : ckIs p.prods b = false) (hr : refT2 p b = .nilIface) (hno : ∀ o ∈ p.opens, o.pid ≠ b.pid) :
    Ct Tryz.prog 38 [.t (wrT e i), .agg (liftT (encPart p)), .agg (liftT (encBatch b))] [] (.tuple [.agg (liftT (encPart ⟨p.start, p.fin, p.rows, insF Opn.pid ⟨b.pid, b.epoch, [b]⟩ p.opens, tkRes p.prods b (-1)⟩)), .t (.int .i64 (-1)), .t (.slice .any 4 ((putW (placeN e i b) [entD b]).map encWr)), .t .nilIface]) [] := by
  have hs' := hs
  obtain ⟨s1, s2, s3, s4⟩ := hs'
  have hm := may_bounds hb
  have ck := scheck_ok p.prods b s4 (by omega)
  have cr := refused_ok p b hs (by omega) (by omega)
  have co := own4_ok p hs
  unfold ownA at co
  have cb := ownBatch_ok b (by omega)
  have cj := joinN_ok p.opens b s2 hsrt hno (by omega)
  rw [List.length_map] at cj
  have ct := take_ok p.prods b (-1) s4 (by omega)
  rw [hc, hi] at ck
  rw [hr] at cr
  rw [tkErr_ok hc hi (base := -1) ⟨by omega, by omega⟩] at ct
  have ep := eput_ok (placeN e i b) [entD b] (by simp) (by simp [smallE, entD, prodZ]; omega)
  rw [putE_D hb, putR_D hb] at ep
  have cI : e = 0 → Ct Tryz.prog 264 [.t (.agg (encSpot e i)), .agg (liftT (encBatch b))] [] (.t (.str (placeN e i b))) [] := fun h => by
    have := placeI_ok e i b he hi0
    subst h
    rwa [show placeN 0 i b = logN 0 i by simp [placeN]]
  have cB : e = 1 → Ct Tryz.prog 268 [.t (.agg (encSpot e i)), .agg (liftT (encBatch b))] [] (.t (.str (placeN e i b))) [] := fun h => by
    have := placeB_ok i b hi0 hb
    subst h
    exact this
  refine ct0 progOk Tryz.func38 rfl false rfl rfl ?_
  repeat' (first | refine w_stepZ progOk rfl rfl rfl rfl rfl ?_ | refine w_step progOk rfl rfl rfl ?_ | refine w_nil ?_ | refine w_seq ?_ | refine w_reg progOk rfl rfl ?_ | (refine w_condP rfl (ht := fun h => ?_) (hf := fun h => ?_) <;> try exact prn) | refine w_skip ?_ | refine w_regD (id := 12) (m := 4) progOk (by kernel_rfl) rfl rfl rfl rfl ?_ | refine s_step rfl rfl rfl rfl ?_ | refine s_nil ?_ | refine w_call progOk rfl rfl rfl rfl rfl rfl rfl (ck) rfl rfl ?_ | refine w_call progOk rfl rfl rfl rfl rfl rfl rfl (cr) rfl rfl ?_ | refine w_callR progOk [] [(80, 86)] rfl rfl rfl rfl rfl co rfl rfl rfl rfl rfl ?_ | refine w_callR progOk [(86, 1)] [(1, 86)] rfl rfl rfl rfl rfl cj rfl rfl rfl rfl rfl ?_ | refine w_call progOk rfl rfl rfl rfl rfl rfl rfl (ct) rfl rfl ?_ | refine s_call rfl rfl rfl rfl rfl (cb) rfl rfl ?_ | fail)
  refine Tr.weak (E := [(0, .t (wrT e i)), (5, .ref 10 0), (6, .ref 12 0), (10, .t (.int .i64 (-1))), (14, .ref 28 0)]) (S := [(86, .grow 3 ((insF Opn.pid ⟨b.pid, b.epoch, [b]⟩ p.opens).map encOpn)), (28, .cells [.t (.int .i64 p.start), .t (.int .i64 p.fin), .t (.slice .any 5 (p.rows.map encRow)), .row 86 3 0 (p.opens.length + 1), .t (.slice .any 4 ((tkRes p.prods b (-1)).map encProd))]), (12, .cells (liftT ti41.zero)), (10, .cells (liftT (encBatch b)))]) ?_ (at_of [4] (sub_eq rfl rfl (sub_eq rfl rfl (sub_eq rfl rfl (sub_eq rfl rfl (sub_eq rfl rfl sub_nil))))) rfl)
  have hw : (e = 0 ∧ wrT e i = .iface 152 (.agg (encSpot e i))) ∨ (e = 1 ∧ wrT e i = .iface 153 (.agg (encSpot e i))) := by
    rcases he with rfl | rfl
    · exact .inl ⟨rfl, rfl⟩
    · exact .inr ⟨rfl, rfl⟩
  have hil : (insF Opn.pid ⟨b.pid, b.epoch, [b]⟩ p.opens).length = p.opens.length + 1 := insF_len hno
  rcases hw with ⟨he1, hw⟩ | ⟨he1, hw⟩ <;> rw [hw]
  · have cI := cI he1
    repeat' (first | refine w_stepZ progOk rfl rfl rfl rfl rfl ?_ | refine w_step progOk rfl rfl rfl ?_ | refine w_nil ?_ | refine w_seq ?_ | refine w_reg progOk rfl rfl ?_ | (refine w_condP rfl (ht := fun h => ?_) (hf := fun h => ?_) <;> try exact prn) | refine w_skip ?_ | refine w_ret ?_ | refine w_regD (id := 18) (m := 11) progOk (by kernel_rfl) rfl rfl rfl rfl ?_ | refine s_step rfl rfl rfl rfl ?_ | refine s_call rfl rfl rfl rfl rfl (cI) rfl rfl ?_ | refine s_call rfl rfl rfl rfl rfl (Ct.args ep ⟨Sub.refl _, sub_sl ⟨⟨SubT.refl _, SubT.refl _, SubT.refl _, SubT.refl _, SubT.refl _, SubT.refl _, SubT.refl _, SubT.refl _, SubT.refl _, SubT.refl _, SubT.refl _, SubT.refl _, SubT.refl _, SubT.refl _, SubT.refl _, SubT.refl _, SubT.refl _, SubT.nil, trivial⟩, trivial⟩, trivial⟩) rfl rfl ?_ | fail)
    refine w_fin rfl (Sub.of_eq ?_)
    simp [encPart, liftT, frzA, hil]
    exact List.take_of_length_le (by simp [hil])
  · have cB := cB he1
    repeat' (first | refine w_stepZ progOk rfl rfl rfl rfl rfl ?_ | refine w_step progOk rfl rfl rfl ?_ | refine w_nil ?_ | refine w_seq ?_ | refine w_reg progOk rfl rfl ?_ | (refine w_condP rfl (ht := fun h => ?_) (hf := fun h => ?_) <;> try exact prn) | refine w_skip ?_ | refine w_ret ?_ | refine w_regD (id := 18) (m := 11) progOk (by kernel_rfl) rfl rfl rfl rfl ?_ | refine s_step rfl rfl rfl rfl ?_ | refine s_call rfl rfl rfl rfl rfl (cB) rfl rfl ?_ | refine s_call rfl rfl rfl rfl rfl (Ct.args ep ⟨Sub.refl _, sub_sl ⟨⟨SubT.refl _, SubT.refl _, SubT.refl _, SubT.refl _, SubT.refl _, SubT.refl _, SubT.refl _, SubT.refl _, SubT.refl _, SubT.refl _, SubT.refl _, SubT.refl _, SubT.refl _, SubT.refl _, SubT.refl _, SubT.refl _, SubT.refl _, SubT.nil, trivial⟩, trivial⟩, trivial⟩) rfl rfl ?_ | fail)
    refine w_fin rfl (Sub.of_eq ?_)
    simp [encPart, liftT, frzA, hil]
    exact List.take_of_length_le (by simp [hil])
theorem produceJ_ok (e i : Int) (he : e = 0 ∨ e = 1) (hi0 : i = 0 ∨ i = 1 ∨ i = 2) (p : Part) (b : Batch) (hs : smallPart p) (hf : 0 ≤ p.fin ∧ p.fin ≤ 1048576) (hb : mayBatch b = true) (ht : b.txn = true) (hc : ckErr p.prods b = 0) (hi : ckIs p.prods b = false) (hr : refT2 p b = .nilIface) (k : Nat) (o : Opn) (hk : p.opens[k]? = some o) (hidx : idxOf (fun o => decide (o.pid = b.pid)) p.opens = (k : Int)) (hany : p.opens.any (fun o => decide (o.pid = b.pid)) = true) (hne : o.batches ≠ []) :
    Ct Tryz.prog 38 [.t (wrT e i), .agg (liftT (encPart p)), .agg (liftT (encBatch b))] [] (.tuple [.agg (liftT (encPart ⟨p.start, p.fin, p.rows, p.opens.set k { o with batches := o.batches ++ [b] }, tkRes p.prods b (-1)⟩)), .t (.int .i64 (-1)), .t (.slice .any 4 ((putW (placeN e i b) [entD b]).map encWr)), .t .nilIface]) [] := by
  have hs' := hs
  obtain ⟨s1, s2, s3, s4⟩ := hs'
  have hm := may_bounds hb
  have ck := scheck_ok p.prods b s4 (by omega)
  have cr := refused_ok p b hs (by omega) (by omega)
  have co := own5_ok p hs k o hk hne
  unfold ownA at co
  have cb := ownBatch_ok b (by omega)
  have hso := s3 o (List.mem_of_getElem? hk)
  have cj := fun τ => joinF_ok p.opens b k o τ s2 hk hidx hany hne hso.1
  have hgl : ∀ τ, (tgO p.opens k τ o p.opens.length).length = p.opens.length := fun τ => tgO_len (Nat.le_refl _)
  simp only [hgl] at cj
  have ct := take_ok p.prods b (-1) s4 (by omega)
  rw [hc, hi] at ck
  rw [hr] at cr
  rw [tkErr_ok hc hi (base := -1) ⟨by omega, by omega⟩] at ct
  have ep := eput_ok (placeN e i b) [entD b] (by simp) (by simp [smallE, entD, prodZ]; omega)
  rw [putE_D hb, putR_D hb] at ep
  have cI : e = 0 → Ct Tryz.prog 264 [.t (.agg (encSpot e i)), .agg (liftT (encBatch b))] [] (.t (.str (placeN e i b))) [] := fun h => by
    have := placeI_ok e i b he hi0
    subst h
    rwa [show placeN 0 i b = logN 0 i by simp [placeN]]
  have cB : e = 1 → Ct Tryz.prog 268 [.t (.agg (encSpot e i)), .agg (liftT (encBatch b))] [] (.t (.str (placeN e i b))) [] := fun h => by
    have := placeB_ok i b hi0 hb
    subst h
    exact this
  refine ct0 progOk Tryz.func38 rfl false rfl rfl ?_
  repeat' (first | refine w_stepZ progOk rfl rfl rfl rfl rfl ?_ | refine w_step progOk rfl rfl rfl ?_ | refine w_nil ?_ | refine w_seq ?_ | refine w_reg progOk rfl rfl ?_ | (refine w_condP rfl (ht := fun h => ?_) (hf := fun h => ?_) <;> try exact prn) | refine w_skip ?_ | refine w_regD (id := 12) (m := 4) progOk (by kernel_rfl) rfl rfl rfl rfl ?_ | refine s_step rfl rfl rfl rfl ?_ | refine s_nil ?_ | refine w_call progOk rfl rfl rfl rfl rfl rfl rfl (ck) rfl rfl ?_ | refine w_call progOk rfl rfl rfl rfl rfl rfl rfl (cr) rfl rfl ?_ | refine w_callF progOk [] [(80, 86), (52, 88)] rfl rfl rfl rfl rfl co rfl (fun _ _ => rfl) (fun _ _ => rfl) (fun _ _ => rfl) (fun τ _ => ?_) | refine w_callR progOk [(86, 1), (88, 3)] [(1, 86), (3, 88)] rfl rfl rfl rfl rfl (cj _) rfl rfl rfl rfl rfl ?_ | refine w_call progOk rfl rfl rfl rfl rfl rfl rfl (ct) rfl rfl ?_ | refine s_call rfl rfl rfl rfl rfl (cb) rfl rfl ?_ | fail)
  refine Tr.weak (E := [(0, .t (wrT e i)), (5, .ref 10 0), (6, .ref 12 0), (10, .t (.int .i64 (-1))), (14, .ref 28 0)]) (S := [(86, .grow 3 ((p.opens.set k { o with batches := o.batches ++ [b] }).map encOpn)), (88, .rights []), (28, .cells [.t (.int .i64 p.start), .t (.int .i64 p.fin), .t (.slice .any 5 (p.rows.map encRow)), .row 86 3 0 p.opens.length, .t (.slice .any 4 ((tkRes p.prods b (-1)).map encProd))]), (12, .cells (liftT ti41.zero)), (10, .cells (liftT (encBatch b)))]) ?_ (at_of [4] (sub_eq rfl rfl (sub_eq rfl rfl (sub_eq rfl rfl (sub_eq rfl rfl (sub_eq rfl rfl sub_nil))))) rfl)
  have hw : (e = 0 ∧ wrT e i = .iface 152 (.agg (encSpot e i))) ∨ (e = 1 ∧ wrT e i = .iface 153 (.agg (encSpot e i))) := by
    rcases he with rfl | rfl
    · exact .inl ⟨rfl, rfl⟩
    · exact .inr ⟨rfl, rfl⟩
  have hil : (p.opens.set k { o with batches := o.batches ++ [b] }).length = p.opens.length := List.length_set
  rcases hw with ⟨he1, hw⟩ | ⟨he1, hw⟩ <;> rw [hw]
  · have cI := cI he1
    repeat' (first | refine w_stepZ progOk rfl rfl rfl rfl rfl ?_ | refine w_step progOk rfl rfl rfl ?_ | refine w_nil ?_ | refine w_seq ?_ | refine w_reg progOk rfl rfl ?_ | (refine w_condP rfl (ht := fun h => ?_) (hf := fun h => ?_) <;> try exact prn) | refine w_skip ?_ | refine w_ret ?_ | refine w_regD (id := 18) (m := 11) progOk (by kernel_rfl) rfl rfl rfl rfl ?_ | refine s_step rfl rfl rfl rfl ?_ | refine s_call rfl rfl rfl rfl rfl (cI) rfl rfl ?_ | refine s_call rfl rfl rfl rfl rfl (Ct.args ep ⟨Sub.refl _, sub_sl ⟨⟨SubT.refl _, SubT.refl _, SubT.refl _, SubT.refl _, SubT.refl _, SubT.refl _, SubT.refl _, SubT.refl _, SubT.refl _, SubT.refl _, SubT.refl _, SubT.refl _, SubT.refl _, SubT.refl _, SubT.refl _, SubT.refl _, SubT.refl _, SubT.nil, trivial⟩, trivial⟩, trivial⟩) rfl rfl ?_ | fail)
    refine w_fin rfl (Sub.of_eq ?_)
    simp [encPart, liftT, frzA, hil]
    exact List.take_of_length_le (by simp [hil])
  · have cB := cB he1
    repeat' (first | refine w_stepZ progOk rfl rfl rfl rfl rfl ?_ | refine w_step progOk rfl rfl rfl ?_ | refine w_nil ?_ | refine w_seq ?_ | refine w_reg progOk rfl rfl ?_ | (refine w_condP rfl (ht := fun h => ?_) (hf := fun h => ?_) <;> try exact prn) | refine w_skip ?_ | refine w_ret ?_ | refine w_regD (id := 18) (m := 11) progOk (by kernel_rfl) rfl rfl rfl rfl ?_ | refine s_step rfl rfl rfl rfl ?_ | refine s_call rfl rfl rfl rfl rfl (cB) rfl rfl ?_ | refine s_call rfl rfl rfl rfl rfl (Ct.args ep ⟨Sub.refl _, sub_sl ⟨⟨SubT.refl _, SubT.refl _, SubT.refl _, SubT.refl _, SubT.refl _, SubT.refl _, SubT.refl _, SubT.refl _, SubT.refl _, SubT.refl _, SubT.refl _, SubT.refl _, SubT.refl _, SubT.refl _, SubT.refl _, SubT.refl _, SubT.refl _, SubT.nil, trivial⟩, trivial⟩, trivial⟩) rfl rfl ?_ | fail)
    refine w_fin rfl (Sub.of_eq ?_)
    simp [encPart, liftT, frzA, hil]
    exact List.take_of_length_le (by simp [hil])
end Go.Proofs.YtpdmaenhenfofaaGreatDoor

namespace Go.Proofs.YtpdmaenhenfofaaGreatDoor
open Go.Am
attribute [local irreducible] Decidable.decide
set_option maxRecDepth 100000
set_option maxHeartbeats 1000000
theorem produceT_ok (e i : Int) (he : e = 0 ∨ e = 1) (hi0 : i = 0 ∨ i = 1 ∨ i = 2) (p : Part) (b : Batch) (hs : smallPart p) (hp : POk p) (hb : mayBatch b = true) (ht : b.txn = true) (hc : ckErr p.prods b = 0) (hi : ckIs p.prods b = false) (hr : refC p b = none) :
    Ct Tryz.prog 38 [.t (wrT e i), .agg (liftT (encPart p)), .agg (liftT (encBatch b))] [] (prodR e i p b).av [] := by
  have hf : 0 ≤ p.fin ∧ p.fin ≤ 1048576 := ⟨by have := hp.b0; have := hp.b1; omega, hp.b2⟩
  have hr2 := refC_none hr
  have hP : prodR e i p b = ⟨txnP p b, -1, putW (placeN e i b) [entD b], none⟩ := by simp [prodR, hc, hi, hr, ht]
  rw [hP]
  have hro := (refT2_nil hr2).1
  cases hf2 : p.opens.find? (fun o => decide (o.pid = b.pid)) with
  | none =>
    have hno : ∀ o ∈ p.opens, o.pid ≠ b.pid := fun o ho => by simpa using List.find?_eq_none.1 hf2 o ho
    have := produceN_ok e i he hi0 p b hs hf hp.osrt hb ht hc hi hr2 hno
    rw [show txnP p b = ⟨p.start, p.fin, p.rows, insF Opn.pid ⟨b.pid, b.epoch, [b]⟩ p.opens, tkRes p.prods b (-1)⟩ by simp [txnP, openOf, hf2]]
    exact this
  | some o =>
    obtain ⟨k, hk, hidx, hany⟩ := find_idx hf2
    have hpid : o.pid = b.pid := by simpa using List.find?_some hf2
    have hcl := copyOk_len (hp.ook o (List.mem_of_find?_eq_some hf2)).1
    have hne : o.batches ≠ [] := fun h => by rw [h] at hcl; simp at hcl
    have := produceJ_ok e i he hi0 p b hs hf hb ht hc hi hr2 k o hk hidx hany hne
    have hopen : openOf p.opens b = { o with batches := o.batches ++ [b] } := by simp [openOf, hf2]
    rw [show txnP p b = ⟨p.start, p.fin, p.rows, p.opens.set k { o with batches := o.batches ++ [b] }, tkRes p.prods b (-1)⟩ by
      rw [set_ins (x := { o with batches := o.batches ++ [b] }) hp.osrt hk rfl, ← hopen]; rfl]
    exact this
theorem produceAll_ok (e i : Int) (he : e = 0 ∨ e = 1) (hi0 : i = 0 ∨ i = 1 ∨ i = 2) (p : Part) (b : Batch) (hs : smallPart p) (hp : POk p) (hb : mayBatch b = true) :
    Ct Tryz.prog 38 [.t (wrT e i), .agg (liftT (encPart p)), .agg (liftT (encBatch b))] [] (prodR e i p b).av [] :=
  produceG_ok e i he hi0 p b hs ⟨by have := hp.b0; have := hp.b1; omega, hp.b2⟩ hb fun ht hc hi hr => produceT_ok e i he hi0 p b hs hp hb ht hc hi hr
theorem Produce_ok (e q : Int) (p : Part) (b : Batch) (hs : smallPart p) (hl : b.recs.length ≤ 1000000) :
    Ct Tryz.prog 15 [.t (.int .i8 e), .t (.int .i64 q), .agg (liftT (encPart p)), .agg (liftT (encBatch b))] [] (Produce e q p b).av [] :=
  produceW_ok e q p b hs hl fun hbad hb => by
    obtain ⟨_, he, hq, hpk⟩ := of_good hbad
    exact produceAll_ok e q he hq p b hs (partOk_iff.1 hpk) hb
end Go.Proofs.YtpdmaenhenfofaaGreatDoor
