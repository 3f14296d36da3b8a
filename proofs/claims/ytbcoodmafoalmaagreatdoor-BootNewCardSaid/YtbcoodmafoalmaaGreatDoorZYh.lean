/- Contracts of errors: file.Code, and what a disk refuses. -/
import Derived.Test.YtbcoodmafoalmaaGreatDoorZM9
import Derived.Test.YtbcoodmafoalmaaGreatDoorZM10
import Derived.Test.YtbcoodmafoalmaaGreatDoorZE3
import Derived.Test.YtbcoodmafoalmaaGreatDoorZE1
import Derived.Test.YtbcoodmafoalmaaGreatDoorZE2
import Derived.Test.YtbcoodmafoalmaaGreatDoorZYa
set_option linter.unusedVariables false
set_option linter.unusedSimpArgs false
namespace Go.Proofs.YtbcoodmafoalmaaGreatDoor
open Go.Am
attribute [local irreducible] Decidable.decide
set_option maxRecDepth 100000
set_option maxHeartbeats 1000000
theorem imm_kept {w w' : World} {g : G} {σ : St} (hi : Inv w g σ) (hm : Kept w w') : Ext w g w' g ∧ Inv w' g σ ∧ (∀ v x, Rel w g v x → Rel w' g v x) := by
  have hsz := hm.size
  have hsh : ∀ b p, w.shape? b = some p → w'.shape? b = some p := fun b p hp => by
    rw [shape_of_heap (hm.old b (shape_lt hp))]; exact hp
  have hext : Ext w g w' g := ⟨hsz, fun blk hb _ => hm.old blk hb, fun _ _ h => h, fun _ _ => Iff.rfl, hsh, fun _ h => ⟨h, rfl⟩, ⟨rfl, hm.same⟩, spKeep (fun _ _ _ _ h => h) (fun blk e hb _ _ => hm.old blk hb)⟩
  have hr : ∀ v x, Rel w g v x → Rel w' g v x := fun v x h => h.mono hext.keeps (fun _ _ h => h) hsh
  refine ⟨hext, ⟨fun b B hB => ?_, hi.dom, hi.inj, fun blk hb => by have := hi.lt blk hb; omega, hi.bx, hi.dis, hi.im_of hext.keeps, by have := hi.lo; omega, hi.sx.mono hsz rfl (fun _ _ _ h => h) (fun blk e h _ _ => hm.old blk (hi.sx.lt _ _ h)) (fun c blk h => .inl ⟨c, h⟩) (fun _ _ h => h)⟩, hr⟩
  have hok := hi.ok b B hB
  refine hok.mono rfl (fun _ _ h => h) (fun blk hb => hm.old _ ?_) hr
  cases B with
  | cells cs => obtain ⟨blk', vs, e, h1, h2, h3, _⟩ := hok; rw [h1] at hb; cases hb; exact heap_lt h3
  | grow sz es =>
    rcases hok.2 with ⟨h1, _⟩ | ⟨blk', vs, e, h1, h2, h3, _⟩
    · rw [h1] at hb; cases hb
    · rw [h1] at hb; cases hb; exact heap_lt h3
  | rights L => have h1 : g.β b = some none := hok; rw [h1] at hb; cases hb
  | loop l st pe ps asg bd n env => obtain ⟨r, h1, h2, h3, _⟩ := hok; rw [h1] at hb; cases hb; exact heap_lt h3
  | mp ks xs => obtain ⟨blk', es, clk, h1, h2, h3, _⟩ := hok; rw [h1] at hb; cases hb; exact heap_lt h3
theorem fwrapE_ct (n : Int) : Ct Tryz.prog 15 [.t (.iface 30 (.int .i64 n))] [] (.t (.int .i64 n)) [] := by
  refine ⟨⟨_, Tryz.func15, rfl⟩, fun vs w g hr hi => ?_⟩
  obtain ⟨hlen, hrel⟩ := hr
  match vs, hlen with
  | [v1], _ =>
    have r1 := rel_t_inv (hrel 0 v1 _ rfl rfl)
    cases r1 with
    | iface _ p1 _ r1 =>
      cases r1
      have hg := (hi.im _ (List.mem_singleton.2 rfl)).2
      refine (fc_wrappedE n w hg).mono ?_
      rintro ev w' ⟨rfl, hk⟩
      obtain ⟨a1, a2, a3⟩ := imm_kept hi hk
      exact ⟨_, g, rfl, a1, .t _ _ (.int _ _), a2⟩
def WrapOk (ft off : Nat) : Prop := ∀ (pb po : Nat) (n : Int) (w : World), w.cell? ⟨0, 0, none⟩ = some (.iface 166 (.agg #[.pointer (some ⟨4, 27, none⟩)])) → w.cell? ⟨pb, po + off, none⟩ = some (.int .i64 n) →
  Calls Tryz.prog 15 #[.iface ft (.pointer (some ⟨pb, po, none⟩))] w fun ev w' => ev = .returned (.int .i64 n) ∧ Kept w w'
theorem fwrap_ct {ft off : Nat} (h : WrapOk ft off) (cs : List T) (n : Int) (hcs : cs[off]? = some (.int .i64 n)) : Ct Tryz.prog 15 [.t (.iface ft (.ptr cs))] [] (.t (.int .i64 n)) [] := by
  refine ⟨⟨_, Tryz.func15, rfl⟩, fun vs w g hr hi => ?_⟩
  obtain ⟨hlen, hrel⟩ := hr
  match vs, hlen with
  | [v1], _ =>
    have r1 := rel_t_inv (hrel 0 v1 _ rfl rfl)
    cases r1 with
    | iface _ p1 _ r1 =>
      obtain ⟨pb, po, rfl, hc⟩ := ptr_inv r1
      have hg := (hi.im _ (List.mem_singleton.2 rfl)).2
      obtain ⟨_, _, x1, hx1, hx2⟩ := hc off _ hcs
      have hx3 : x1 = .int .i64 n := by cases hx2; rfl
      subst hx3
      refine (h pb po n w hg hx1).mono ?_
      rintro ev w' ⟨rfl, hk⟩
      obtain ⟨a1, a2, a3⟩ := imm_kept hi hk
      exact ⟨_, g, rfl, a1, .t _ _ (.int _ _), a2⟩
theorem fcodeE_ok (n : Int) : Ct Tryz.prog 6 [.t (.iface 30 (.int .i64 n))] [] (.t (.int .i64 n)) [] := by
  have c := fwrapE_ct n
  refine ct0 progOk Tryz.func6 rfl false rfl rfl ?_
  repeat' (first | refine w_stepZ progOk rfl rfl rfl rfl rfl ?_ | refine w_step progOk rfl rfl rfl ?_ | refine w_nil ?_ | refine w_seq ?_ | refine w_reg progOk rfl rfl ?_ | (refine w_gTP rfl rfl rfl rfl rfl (ht := fun h => ?_) (hf := fun h => ?_) <;> try exact prn) | (refine w_gFP rfl rfl rfl rfl rfl (ht := fun h => ?_) (hf := fun h => ?_) <;> try exact prn) | refine w_guardU rfl rfl rfl rfl rfl ?_ | (refine w_condP rfl (ht := fun h => ?_) (hf := fun h => ?_) <;> try exact prn) | refine w_block ?_ | refine w_skip ?_ | refine w_exit ?_ | refine w_ret ?_ | refine w_index progOk rfl rfl rfl rfl rfl rfl rfl (map_get (by assumption)) rfl ?_ | refine w_indexE progOk rfl rfl rfl rfl rfl rfl rfl (by assumption) (map_get (by assumption)) rfl ?_ | refine w_appNil progOk rfl rfl rfl rfl rfl rfl rfl rfl rfl rfl rfl rfl rfl (by simp [chunk]; omega) ?_ | refine w_appRow progOk rfl rfl rfl rfl rfl rfl rfl rfl rfl rfl rfl rfl rfl rfl (by simp [chunk]; omega) ?_ | refine w_nilQ progOk rfl rfl rfl rfl rfl (fun _ => rfl) (fun b hb => ?_) | refine s_step rfl rfl rfl rfl ?_ | refine s_nil ?_ | (refine s_gTP rfl rfl rfl rfl rfl (ht := fun h => ?_) (hf := fun h => ?_) <;> try exact prn) | (refine s_gFP rfl rfl rfl rfl rfl (ht := fun h => ?_) (hf := fun h => ?_) <;> try exact prn) | refine s_guardU rfl rfl rfl rfl rfl ?_ | refine s_index rfl rfl rfl rfl rfl rfl rfl (map_get (by assumption)) rfl ?_ | refine s_indexE rfl rfl rfl rfl rfl rfl rfl (by assumption) (map_get (by assumption)) rfl ?_ | refine w_call progOk rfl rfl rfl rfl rfl rfl rfl (c) rfl rfl ?_ | fail)
  all_goals exact w_fin rfl (Sub.of_eq rfl)
theorem fcodeF_ok (a b : T) (n : Int) : Ct Tryz.prog 6 [.t (.iface 68 (.ptr [a, b, .int .i64 n]))] [] (.t (.int .i64 n)) [] := by
  have c := fwrap_ct (fun pb po n w h1 h2 => fc_wrapFault pb po n w h1 h2) [a, b, .int .i64 n] n rfl
  refine ct0 progOk Tryz.func6 rfl false rfl rfl ?_
  repeat' (first | refine w_stepZ progOk rfl rfl rfl rfl rfl ?_ | refine w_step progOk rfl rfl rfl ?_ | refine w_nil ?_ | refine w_seq ?_ | refine w_reg progOk rfl rfl ?_ | (refine w_gTP rfl rfl rfl rfl rfl (ht := fun h => ?_) (hf := fun h => ?_) <;> try exact prn) | (refine w_gFP rfl rfl rfl rfl rfl (ht := fun h => ?_) (hf := fun h => ?_) <;> try exact prn) | refine w_guardU rfl rfl rfl rfl rfl ?_ | (refine w_condP rfl (ht := fun h => ?_) (hf := fun h => ?_) <;> try exact prn) | refine w_block ?_ | refine w_skip ?_ | refine w_exit ?_ | refine w_ret ?_ | refine w_index progOk rfl rfl rfl rfl rfl rfl rfl (map_get (by assumption)) rfl ?_ | refine w_indexE progOk rfl rfl rfl rfl rfl rfl rfl (by assumption) (map_get (by assumption)) rfl ?_ | refine w_appNil progOk rfl rfl rfl rfl rfl rfl rfl rfl rfl rfl rfl rfl rfl (by simp [chunk]; omega) ?_ | refine w_appRow progOk rfl rfl rfl rfl rfl rfl rfl rfl rfl rfl rfl rfl rfl rfl (by simp [chunk]; omega) ?_ | refine w_nilQ progOk rfl rfl rfl rfl rfl (fun _ => rfl) (fun b hb => ?_) | refine s_step rfl rfl rfl rfl ?_ | refine s_nil ?_ | (refine s_gTP rfl rfl rfl rfl rfl (ht := fun h => ?_) (hf := fun h => ?_) <;> try exact prn) | (refine s_gFP rfl rfl rfl rfl rfl (ht := fun h => ?_) (hf := fun h => ?_) <;> try exact prn) | refine s_guardU rfl rfl rfl rfl rfl ?_ | refine s_index rfl rfl rfl rfl rfl rfl rfl (map_get (by assumption)) rfl ?_ | refine s_indexE rfl rfl rfl rfl rfl rfl rfl (by assumption) (map_get (by assumption)) rfl ?_ | refine w_call progOk rfl rfl rfl rfl rfl rfl rfl (c) rfl rfl ?_ | fail)
  all_goals exact w_fin rfl (Sub.of_eq rfl)
theorem fcodeB_ok (a : T) (n : Int) : Ct Tryz.prog 6 [.t (.iface 123 (.ptr [a, .int .i64 n]))] [] (.t (.int .i64 n)) [] := by
  have c := fwrap_ct (fun pb po n w h1 h2 => fc_wrapBoot pb po n w h1 h2) [a, .int .i64 n] n rfl
  refine ct0 progOk Tryz.func6 rfl false rfl rfl ?_
  repeat' (first | refine w_stepZ progOk rfl rfl rfl rfl rfl ?_ | refine w_step progOk rfl rfl rfl ?_ | refine w_nil ?_ | refine w_seq ?_ | refine w_reg progOk rfl rfl ?_ | (refine w_gTP rfl rfl rfl rfl rfl (ht := fun h => ?_) (hf := fun h => ?_) <;> try exact prn) | (refine w_gFP rfl rfl rfl rfl rfl (ht := fun h => ?_) (hf := fun h => ?_) <;> try exact prn) | refine w_guardU rfl rfl rfl rfl rfl ?_ | (refine w_condP rfl (ht := fun h => ?_) (hf := fun h => ?_) <;> try exact prn) | refine w_block ?_ | refine w_skip ?_ | refine w_exit ?_ | refine w_ret ?_ | refine w_index progOk rfl rfl rfl rfl rfl rfl rfl (map_get (by assumption)) rfl ?_ | refine w_indexE progOk rfl rfl rfl rfl rfl rfl rfl (by assumption) (map_get (by assumption)) rfl ?_ | refine w_appNil progOk rfl rfl rfl rfl rfl rfl rfl rfl rfl rfl rfl rfl rfl (by simp [chunk]; omega) ?_ | refine w_appRow progOk rfl rfl rfl rfl rfl rfl rfl rfl rfl rfl rfl rfl rfl rfl (by simp [chunk]; omega) ?_ | refine w_nilQ progOk rfl rfl rfl rfl rfl (fun _ => rfl) (fun b hb => ?_) | refine s_step rfl rfl rfl rfl ?_ | refine s_nil ?_ | (refine s_gTP rfl rfl rfl rfl rfl (ht := fun h => ?_) (hf := fun h => ?_) <;> try exact prn) | (refine s_gFP rfl rfl rfl rfl rfl (ht := fun h => ?_) (hf := fun h => ?_) <;> try exact prn) | refine s_guardU rfl rfl rfl rfl rfl ?_ | refine s_index rfl rfl rfl rfl rfl rfl rfl (map_get (by assumption)) rfl ?_ | refine s_indexE rfl rfl rfl rfl rfl rfl rfl (by assumption) (map_get (by assumption)) rfl ?_ | refine w_call progOk rfl rfl rfl rfl rfl rfl rfl (c) rfl rfl ?_ | fail)
  all_goals exact w_fin rfl (Sub.of_eq rfl)
theorem asD_ok : AsOk 160 1 := fun pb po t n old w h1 h2 h3 h4 => (asDisk pb po t n old w h1 h2 h3 h4).mono fun ev w' h => ⟨h.1, _, _, _, _, h.2⟩
theorem dcode_ok (i : T) (n : Int) : Ct Tryz.prog 48 [.t (.iface 160 (.ptr [i, .int .i64 n]))] [] (.t (.int .i64 n)) [] := by
  refine ct0 progOk Tryz.func48 rfl false rfl rfl ?_
  repeat' (first | refine w_stepZ progOk rfl rfl rfl rfl rfl ?_ | refine w_step progOk rfl rfl rfl ?_ | refine w_nil ?_ | refine w_seq ?_ | refine w_reg progOk rfl rfl ?_ | (refine w_gTP rfl rfl rfl rfl rfl (ht := fun h => ?_) (hf := fun h => ?_) <;> try exact prn) | (refine w_gFP rfl rfl rfl rfl rfl (ht := fun h => ?_) (hf := fun h => ?_) <;> try exact prn) | refine w_guardU rfl rfl rfl rfl rfl ?_ | (refine w_condP rfl (ht := fun h => ?_) (hf := fun h => ?_) <;> try exact prn) | refine w_block ?_ | refine w_skip ?_ | refine w_exit ?_ | refine w_ret ?_ | refine w_index progOk rfl rfl rfl rfl rfl rfl rfl (map_get (by assumption)) rfl ?_ | refine w_indexE progOk rfl rfl rfl rfl rfl rfl rfl (by assumption) (map_get (by assumption)) rfl ?_ | refine w_appNil progOk rfl rfl rfl rfl rfl rfl rfl rfl rfl rfl rfl rfl rfl (by simp [chunk]; omega) ?_ | refine w_appRow progOk rfl rfl rfl rfl rfl rfl rfl rfl rfl rfl rfl rfl rfl rfl (by simp [chunk]; omega) ?_ | refine w_nilQ progOk rfl rfl rfl rfl rfl (fun _ => rfl) (fun b hb => ?_) | refine s_step rfl rfl rfl rfl ?_ | refine s_nil ?_ | (refine s_gTP rfl rfl rfl rfl rfl (ht := fun h => ?_) (hf := fun h => ?_) <;> try exact prn) | (refine s_gFP rfl rfl rfl rfl rfl (ht := fun h => ?_) (hf := fun h => ?_) <;> try exact prn) | refine s_guardU rfl rfl rfl rfl rfl ?_ | refine s_index rfl rfl rfl rfl rfl rfl rfl (map_get (by assumption)) rfl ?_ | refine s_indexE rfl rfl rfl rfl rfl rfl rfl (by assumption) (map_get (by assumption)) rfl ?_ | refine w_callR progOk [(6, 1)] [(1, 6)] rfl rfl rfl rfl rfl (as_ct asD_ok [i, .int .i64 n] n 0 rfl) rfl rfl rfl rfl rfl ?_ | fail)
  exact w_fin rfl (Sub.of_eq rfl)
theorem isEE_ct (n k : Int) (h : n ≠ k) : Ct Tryz.prog 20 [.t (.iface 30 (.int .i64 n)), .t (.iface 30 (.int .i64 k))] [] (.t (.bool false)) [] := by
  refine ⟨⟨_, Tryz.func20, rfl⟩, fun vs w g hr hi => ?_⟩
  obtain ⟨hlen, hrel⟩ := hr
  match vs, hlen with
  | [v1, v2], _ =>
    have r1 := rel_t_inv (hrel 0 v1 _ rfl rfl)
    have r2 := rel_t_inv (hrel 1 v2 _ rfl rfl)
    cases r1 with
    | iface _ p1 _ r1 =>
      cases r1
      cases r2 with
      | iface _ p2 _ r2 =>
        cases r2
        refine (isErrnoF n k w h).mono ?_
        rintro ev w' ⟨rfl, rfl⟩
        exact ⟨_, g, rfl, Ext.refl _ _, .t _ _ (.bool _), hi⟩
end Go.Proofs.YtbcoodmafoalmaaGreatDoor
