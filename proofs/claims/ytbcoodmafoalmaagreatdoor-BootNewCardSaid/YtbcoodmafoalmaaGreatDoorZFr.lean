/- BootNew: for every input the law returns true, and its arguments read as they did; the card of the seat. No condition beside the row's own. -/
import Derived.Test.YtbcoodmafoalmaaGreatDoorZW3
import Derived.Test.YtbcoodmafoalmaaGreatDoorZYk
import Derived.Test.YtbcoodmafoalmaaGreatDoorCards
import Derived.Test.YtbcoodmafoalmaaGreatDoorZFs
import Derived.Test.YtbcoodmafoalmaaGreatDoorZFv
import Derived.Test.YtbcoodmafoalmaaGreatDoorTie
import Derived.SevenTiedAt
set_option linter.unusedVariables false
set_option linter.unusedSimpArgs false
namespace Go.Proofs.YtbcoodmafoalmaaGreatDoor
open Go.Am Go.ChangeShapes Go.WideShapes Go.RowKit
set_option maxRecDepth 100000
theorem bootNew_sh0 : shOk Tryz.prog 3 (.int .i64) = true := by kernel_rfl
theorem bootNew_sh1 : shOk Tryz.prog 22 (.int .i8) = true := by kernel_rfl
theorem bootNew_lifted (os : Os) (started : os.Started) (H : Type) (enc : TypeId × Value → H) :
    ReturnsInHanded {} Tryz.checked os 3 .any (fun w args => (Rows.bootNewSpec.pre enc Tryz.prog Tryz.f3 [] false w args ∧ laidMetH Tryz.prog faLaid w) ∧ sizedMet enc Tryz.prog Tryz.f3 (OpenSpec.ofChange Rows.bootNewSpec) false w args)
      (Rows.bootNewSpec.post enc Tryz.prog Tryz.f3 false true false false) := by
  refine returnsInHanded_of_change_and (C := Tryz.checked) (X := fun w _ => laidMetH Tryz.prog faLaid w) (fun _ _ _ hh h => h.of_heap hh) fa_own started (by kernel_rfl) Tryz.func3
    (ChangeSpec.witness_at (enc := enc) (C := Tryz.checked) (os := os) (X := fun w _ => laidMetH Tryz.prog faLaid w) false (laidWorld os) #[.int .i64 0, .int .i8 0] 8 rfl (by kernel_rfl) (by kernel_rfl) (by kernel_rfl) (by kernel_rfl) (by kernel_rfl) (laidWorld_met os _)) ?_
  intro W base args ds gs before hval0 hW _ _ hL _
  have hval : ∀ (j : Nat) t v, Tryz.f3.params[j]? = some t → args[j]? = some v → Value.okWide Tryz.prog W .any base t v := hval0
  have hW' := hW
  obtain ⟨p, q, hA0, hV0, rfl, hfz, hnd⟩ := hW
  have hA : DataW.TrodAll enc Tryz.prog W 0 (fun _ => true) true Tryz.f3.params.toList args.toList ds p := hA0
  have hV : DataW.TrodVars enc Tryz.prog W (fun _ => true) [] gs q := hV0
  have hA1 := hA
  rw [Tryz.params3] at hA hval
  obtain ⟨v0, v1, d0, d1, p0, p1, rfl, rfl, rfl, ⟨n0, h0⟩, ⟨n1, h1⟩⟩ := trodAll_two hA
  obtain ⟨rfl, rfl⟩ := trodVars_none hV
  have o0 := one_of_int Tryz.underlying3 (hval 0 _ v0 rfl rfl)
  obtain ⟨xs0, q0, r0⟩ := trod_tree _ _ _ _ _ bootNew_sh0 h0
  simp only [Sh.Q] at q0
  obtain ⟨most, rfl⟩ := q0
  have o1 := one_of_int Tryz.underlying22 (hval 1 _ v1 rfl rfl)
  obtain ⟨xs1, q1, r1⟩ := trod_tree _ _ _ _ _ bootNew_sh1 h1
  simp only [Sh.Q] at q1
  obtain ⟨tag, rfl⟩ := q1
  have hc := (bootNew_ok most tag).2 [v0, v1] W g00 ⟨rfl, fun i v x hv hx => by
    match i with
    | 0 => simp at hv hx; subst hv; subst hx; exact rel_of_one o0 r0
    | 1 => simp at hv hx; subst hv; subst hx; exact rel_of_one o1 r1
    | i + 2 => simp at hv⟩ (g00_inv (handle_of_laid hL))
  refine Calls.mono hc fun e w' => ?_
  rintro ⟨v, g', rfl, hx, hv, _⟩
  have hvt := rel_bool hv
  subst hvt
  have e1 : Rows.bootNewSpec.fn H ([d0, d1] ++ []) = { results := [.lit (.bool true)], args := [d0, d1] } := by simp [Rows.bootNewSpec]
  have hlt : ∀ x ∈ p0 ++ p1, x.block < W.heap.size := fun x hx => hW'.lt x (by simpa using hx)
  refine ⟨_, rfl, _, _, _, [], p0 ++ p1, [], hW', ?_, ?_, ?_, kept_of_ext hx _, fun h => by cases h⟩
  · rw [e1]; exact trodAll_mk1 (shut_bool Tryz.underlying4 true)
  · rw [e1]
    exact carryAll (DataW.TrodAll.respare fa_kids fa_full (by rw [Tryz.params3]; decide) hA1 (fun x hx => by simpa using hlt x hx)) (fun x hxp => same_of_ext hx (hlt x hxp))
  · rw [e1]; rfl
theorem bootNew_holds : Rows.BootNewSaid :=
  OpenClaim.holds_of_wide 3 Tryz.f3 rfl rfl rfl rfl rfl rfl rfl ⟨rfl, rfl, rfl, rfl, rfl⟩ rfl rfl rfl rfl rfl bn_named Tryz.func3 bn_closed
    (of_decide_eq_true (by kernel_rfl)) (by unfold Func.isWrapper; rw [if_neg (of_decide_eq_false (by kernel_rfl))]; exact ⟨rfl, rfl⟩)
    (fun os started H enc _ => bootNew_lifted os started H enc)
theorem bootNew_card : Rows.BootNewCardSaid :=
  Claim7.holds_tied_plain_at .later [] [.data, .data, .data, .handle] true _ true
    bootNew_holds (fun _ h => by cases h) (by kernel_rfl) (fun _ h => by cases h) bootNew_row_tie rfl ⟨rfl, rfl⟩ (by kernel_rfl) rfl
    (fun f fn hf hfn => by
      obtain rfl : f = 3 := Option.some.inj ((show Tryz.prog.funcNamed Rows.bootNewRow.func = some 3 from bn_named).symm.trans hf) |>.symm
      obtain rfl : fn = Tryz.f3 := (Option.some.inj (Tryz.func3.symm.trans hfn)).symm
      exact ⟨by kernel_rfl, fun j t ht => by
        rw [Tryz.params3] at ht
        have hm : t ∈ [3, 22] := by simpa using Array.mem_of_getElem? ht
        have hall : ([3, 22].all fun u => !Tryz.prog.wantsStandIn u) = true := by kernel_rfl
        exact (show Tryz.prog.wantsStandIn t = false by simpa using List.all_eq_true.1 hall t hm)⟩)
    bn_goes
#print axioms bootNew_card
end Go.Proofs.YtbcoodmafoalmaaGreatDoor
