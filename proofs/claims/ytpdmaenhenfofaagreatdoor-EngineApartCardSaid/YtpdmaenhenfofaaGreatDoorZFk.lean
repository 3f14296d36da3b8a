/- EngineApart: for every input the law returns true, and its arguments read as they did; the card of the seat. No condition beside the row's own. -/
import Derived.Test.YtpdmaenhenfofaaGreatDoorZFb
import Derived.Test.YtpdmaenhenfofaaGreatDoorZTb
import Derived.Test.YtpdmaenhenfofaaGreatDoorCards
import Derived.Test.YtpdmaenhenfofaaGreatDoorTie
import Derived.SevenTiedAt
import Derived.Carry
set_option linter.unusedVariables false
set_option linter.unusedSimpArgs false
namespace Go.Proofs.YtpdmaenhenfofaaGreatDoor
open Go.Am Go.ChangeShapes Go.WideShapes Go.RowKit
set_option maxRecDepth 100000
theorem apart_sh0 : shOk Tryz.prog 31 (.int .i8) = true := by kernel_rfl
theorem apart_sh1 : shOk Tryz.prog 41 shPart = true := by kernel_rfl
theorem apart_sh2 : shOk Tryz.prog 34 shBatch = true := by kernel_rfl
theorem apart_sh3 : shOk Tryz.prog 34 shBatch = true := by kernel_rfl
theorem apart_lifted (os : Os) (started : os.Started) (H : Type) (enc : TypeId × Value → H) :
    ReturnsInHanded {} Tryz.checked os 5 .any (fun w args => (Rows.engineApartSpec.pre enc Tryz.prog Tryz.f5 [] false w args ∧ laidMetH Tryz.prog faLaid w) ∧ sizedMet enc Tryz.prog Tryz.f5 (OpenSpec.ofChange Rows.engineApartSpec) false w args)
      (Rows.engineApartSpec.post enc Tryz.prog Tryz.f5 false true false false) := by
  refine returnsInHanded_of_change_and (C := Tryz.checked) (X := fun w _ => laidMetH Tryz.prog faLaid w) (fun _ _ _ hh h => h.of_heap hh) fa_own started (by kernel_rfl) Tryz.func5
    (ChangeSpec.witness_at (enc := enc) (C := Tryz.checked) (os := os) (X := fun w _ => laidMetH Tryz.prog faLaid w) false (laidWorld os) #[.int .i8 0, .agg #[.int .i64 0, .int .i64 0, .slice none 0 0, .slice none 0 0, .slice none 0 0], .agg #[.int .i64 0, .int .i64 0, .int .i64 0, .bool false, .slice none 0 0], .agg #[.int .i64 0, .int .i64 0, .int .i64 0, .bool false, .slice none 0 0]] 8 rfl (by kernel_rfl) (by kernel_rfl) (by kernel_rfl) (by kernel_rfl) (by kernel_rfl) (laidWorld_met os _)) ?_
  intro W base args ds gs before hval0 hW _ _ hL _
  have hval : ∀ (j : Nat) t v, Tryz.f5.params[j]? = some t → args[j]? = some v → Value.okWide Tryz.prog W .any base t v := hval0
  have hW' := hW
  obtain ⟨p, q, hA0, hV0, rfl, hfz, hnd⟩ := hW
  have hA : DataW.TrodAll enc Tryz.prog W 0 (fun _ => true) true Tryz.f5.params.toList args.toList ds p := hA0
  have hV : DataW.TrodVars enc Tryz.prog W (fun _ => true) [] gs q := hV0
  have hA1 := hA
  rw [Tryz.params5] at hA hval
  obtain ⟨v0, v1, v2, v3, d0, d1, d2, d3, p0, p1, p2, p3, rfl, rfl, rfl, ⟨n0, h0⟩, ⟨n1, h1⟩, ⟨n2, h2⟩, ⟨n3, h3⟩⟩ := trodAll_four hA
  obtain ⟨rfl, rfl⟩ := trodVars_none hV
  have o0 := one_of_int Tryz.underlying31 (hval 0 _ v0 rfl rfl)
  obtain ⟨xs0, q0, r0⟩ := trod_tree _ _ _ _ _ apart_sh0 h0
  simp only [Sh.Q] at q0
  obtain ⟨tag, rfl⟩ := q0
  obtain ⟨xs1, q1, r1⟩ := trod_tree _ _ _ _ _ apart_sh1 h1
  obtain ⟨pt, rfl⟩ := q_part q1
  obtain ⟨xs2, q2, r2⟩ := trod_tree _ _ _ _ _ apart_sh2 h2
  obtain ⟨ba, rfl⟩ := q_batch q2
  obtain ⟨xs3, q3, r3⟩ := trod_tree _ _ _ _ _ apart_sh3 h3
  obtain ⟨bb, rfl⟩ := q_batch q3
  have hc := (apart_ok tag pt ba bb).2 [v0, v1, v2, v3] W g00 ⟨rfl, fun i v x hv hx => by
    match i with
    | 0 => simp at hv hx; subst hv; subst hx; exact rel_of_one o0 r0
    | 1 => simp at hv hx; subst hv; subst hx; exact rel_of_struct Tryz.underlying41 (hval 1 _ _ rfl rfl) r1
    | 2 => simp at hv hx; subst hv; subst hx; exact rel_of_struct Tryz.underlying34 (hval 2 _ _ rfl rfl) r2
    | 3 => simp at hv hx; subst hv; subst hx; exact rel_of_struct Tryz.underlying34 (hval 3 _ _ rfl rfl) r3
    | i + 4 => simp at hv⟩ (g00_inv (handle_of_laid hL))
  refine Calls.mono hc fun e w' => ?_
  rintro ⟨v, g', rfl, hx, hv, _⟩
  have hvt := rel_bool hv
  subst hvt
  have e1 : Rows.engineApartSpec.fn H ([d0, d1, d2, d3] ++ []) = { results := [.lit (.bool true)], args := [d0, d1, d2, d3] } := by simp [Rows.engineApartSpec]
  have hlt : ∀ x ∈ p0 ++ p1 ++ p2 ++ p3, x.block < W.heap.size := fun x hx => hW'.lt x (by simpa using hx)
  refine ⟨_, rfl, _, _, _, [], p0 ++ p1 ++ p2 ++ p3, [], hW', ?_, ?_, ?_, kept_of_ext hx _, fun h => by cases h⟩
  · rw [e1]; exact trodAll_mk1 (shut_bool Tryz.underlying4 true)
  · rw [e1]
    exact carryAll (DataW.TrodAll.respare fa_kids fa_full (by rw [Tryz.params5]; decide) hA1 (fun x hx => by simpa using hlt x hx)) (fun x hxp => same_of_ext hx (hlt x hxp))
  · rw [e1]; rfl
theorem apart_holds : Rows.EngineApartSaid :=
  OpenClaim.holds_of_wide 5 Tryz.f5 rfl rfl rfl rfl rfl rfl rfl ⟨rfl, rfl, rfl, rfl, rfl⟩ rfl rfl rfl rfl rfl (by kernel_rfl) Tryz.func5 (by kernel_rfl)
    (of_decide_eq_true (by kernel_rfl)) (by unfold Func.isWrapper; rw [if_neg (of_decide_eq_false (by kernel_rfl))]; exact ⟨rfl, rfl⟩)
    (fun os started H enc _ => apart_lifted os started H enc)
theorem apart_card : Rows.EngineApartCardSaid :=
  Claim7.holds_tied_plain_at .later [] [.handle] true _ true
    apart_holds (fun _ h => by cases h) (by kernel_rfl) (fun _ h => by cases h) engineApart_row_tie rfl ⟨rfl, rfl⟩ (by kernel_rfl) rfl
    (fun f fn hf hfn => by
      obtain rfl : f = 5 := Option.some.inj ((show Tryz.prog.funcNamed Rows.engineApartRow.func = some 5 by kernel_rfl).symm.trans hf) |>.symm
      obtain rfl : fn = Tryz.f5 := (Option.some.inj (Tryz.func5.symm.trans hfn)).symm
      exact ⟨by kernel_rfl, fun j t ht => by
        rw [Tryz.params5] at ht
        have hm : t ∈ [31, 41, 34, 34] := by simpa using Array.mem_of_getElem? ht
        have hall : ([31, 41, 34, 34].all fun u => !Tryz.prog.wantsStandIn u) = true := by kernel_rfl
        exact (show Tryz.prog.wantsStandIn t = false by simpa using List.all_eq_true.1 hall t hm)⟩)
    (by kernel_rfl)
#print axioms apart_card
end Go.Proofs.YtpdmaenhenfofaaGreatDoor
