/- EngineAlike: for every input the law returns true, and its arguments read as they did; the card of the seat. No condition beside the row's own. -/
import Derived.Test.YtpdmaenhenfofaaGreatDoorZFc
import Derived.Test.YtpdmaenhenfofaaGreatDoorZJ18
import Derived.Test.YtpdmaenhenfofaaGreatDoorCards
import Derived.Test.YtpdmaenhenfofaaGreatDoorTie
import Derived.SevenTiedAt
set_option linter.unusedVariables false
set_option linter.unusedSimpArgs false
namespace Go.Proofs.YtpdmaenhenfofaaGreatDoor
open Go.Am Go.ChangeShapes Go.WideShapes Go.RowKit
set_option maxRecDepth 100000
theorem alike_sh0 : shOk Tryz.prog 51 (.slice shAct) = true := by kernel_rfl
theorem alike_lifted (os : Os) (started : os.Started) (H : Type) (enc : TypeId × Value → H) :
    ReturnsInHanded {} Tryz.checked os 6 .any (fun w args => (Rows.engineAlikeSpec.pre enc Tryz.prog Tryz.f6 [] false w args ∧ laidMetH Tryz.prog faLaid w) ∧ sizedMet enc Tryz.prog Tryz.f6 (OpenSpec.ofChange Rows.engineAlikeSpec) false w args)
      (Rows.engineAlikeSpec.post enc Tryz.prog Tryz.f6 false true false false) := by
  refine returnsInHanded_of_change_and (C := Tryz.checked) (X := fun w _ => laidMetH Tryz.prog faLaid w) (fun _ _ _ hh h => h.of_heap hh) fa_own started (by kernel_rfl) Tryz.func6
    (ChangeSpec.witness_at (enc := enc) (C := Tryz.checked) (os := os) (X := fun w _ => laidMetH Tryz.prog faLaid w) false (laidWorld os) #[.slice none 0 0] 8 rfl (by kernel_rfl) (by kernel_rfl) (by kernel_rfl) (by kernel_rfl) (by kernel_rfl) (laidWorld_met os _)) ?_
  intro W base args ds gs before hval0 hW _ _ hL _
  have hval : ∀ (j : Nat) t v, Tryz.f6.params[j]? = some t → args[j]? = some v → Value.okWide Tryz.prog W .any base t v := hval0
  have hW' := hW
  obtain ⟨p, q, hA0, hV0, rfl, hfz, hnd⟩ := hW
  have hA : DataW.TrodAll enc Tryz.prog W 0 (fun _ => true) true Tryz.f6.params.toList args.toList ds p := hA0
  have hV : DataW.TrodVars enc Tryz.prog W (fun _ => true) [] gs q := hV0
  have hA1 := hA
  rw [Tryz.params6] at hA hval
  obtain ⟨v0, d0, rfl, rfl, ⟨n0, h0⟩⟩ := trodAll_one hA
  obtain ⟨rfl, rfl⟩ := trodVars_none hV
  have o0 := one_of_slice Tryz.underlying51 (hval 0 _ v0 rfl rfl)
  obtain ⟨xs0, q0, r0⟩ := trod_tree _ _ _ _ _ alike_sh0 h0
  simp only [Sh.Q] at q0
  obtain ⟨ess0, hess0, rfl⟩ := q0
  obtain ⟨acts, rfl⟩ := all_map (f := encAct2) fun y hy => q_act (hess0 y hy)
  have hc := (alike_ok acts).2 [v0] W g00 ⟨rfl, fun i v x hv hx => by
    match i with
    | 0 => simp at hv hx; subst hv; subst hx; exact rel_of_one o0 r0
    | i + 1 => simp at hv⟩ (g00_inv (handle_of_laid hL))
  refine Calls.mono hc fun e w' => ?_
  rintro ⟨v, g', rfl, hx, hv, _⟩
  have hvt := rel_bool hv
  subst hvt
  have e1 : Rows.engineAlikeSpec.fn H ([d0] ++ []) = { results := [.lit (.bool true)], args := [d0] } := by simp [Rows.engineAlikeSpec]
  have hlt : ∀ x ∈ p, x.block < W.heap.size := fun x hx => hW'.lt x (by simpa using hx)
  refine ⟨_, rfl, _, _, _, [], p, [], hW', ?_, ?_, ?_, kept_of_ext hx _, fun h => by cases h⟩
  · rw [e1]; exact trodAll_mk1 (shut_bool Tryz.underlying4 true)
  · rw [e1]
    exact carryAll (DataW.TrodAll.respare fa_kids fa_full (by rw [Tryz.params6]; decide) hA1 (fun x hx => by simpa using hlt x hx)) (fun x hxp => same_of_ext hx (hlt x hxp))
  · rw [e1]; rfl
theorem alike_holds : Rows.EngineAlikeSaid :=
  OpenClaim.holds_of_wide 6 Tryz.f6 rfl rfl rfl rfl rfl rfl rfl ⟨rfl, rfl, rfl, rfl, rfl⟩ rfl rfl rfl rfl rfl (by kernel_rfl) Tryz.func6 (by kernel_rfl)
    (of_decide_eq_true (by kernel_rfl)) (by unfold Func.isWrapper; rw [if_neg (of_decide_eq_false (by kernel_rfl))]; exact ⟨rfl, rfl⟩)
    (fun os started H enc _ => alike_lifted os started H enc)
theorem alike_card : Rows.EngineAlikeCardSaid :=
  Claim7.holds_tied_plain_at .later [] [.handle] true _ true
    alike_holds (fun _ h => by cases h) (by kernel_rfl) (fun _ h => by cases h) engineAlike_row_tie rfl ⟨rfl, rfl⟩ (by kernel_rfl) rfl
    (fun f fn hf hfn => by
      obtain rfl : f = 6 := Option.some.inj ((show Tryz.prog.funcNamed Rows.engineAlikeRow.func = some 6 by kernel_rfl).symm.trans hf) |>.symm
      obtain rfl : fn = Tryz.f6 := (Option.some.inj (Tryz.func6.symm.trans hfn)).symm
      exact ⟨by kernel_rfl, fun j t ht => by
        rw [Tryz.params6] at ht
        have hm : t ∈ [51] := by simpa using Array.mem_of_getElem? ht
        have hall : ([51].all fun u => !Tryz.prog.wantsStandIn u) = true := by kernel_rfl
        exact (show Tryz.prog.wantsStandIn t = false by simpa using List.all_eq_true.1 hall t hm)⟩)
    (by kernel_rfl)
#print axioms alike_card
end Go.Proofs.YtpdmaenhenfofaaGreatDoor
