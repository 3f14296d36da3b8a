/- Contracts of the program: frames; errors.Is; what is put. -/
import Derived.Test.YtpdmaenhenfofaaGreatDoorPp
import Derived.Test.YtpdmaenhenfofaaGreatDoorEc
import Derived.Test.YtpdmaenhenfofaaGreatDoorM5
set_option linter.unusedVariables false
set_option linter.unusedSimpArgs false
namespace Go.Proofs.YtpdmaenhenfofaaGreatDoor
open Go.Am
attribute [local irreducible] Decidable.decide
set_option maxRecDepth 100000
set_option maxHeartbeats 1000000

theorem isNil_ct (k : Int) : Ct Tryz.prog 62 [.t .nilIface, .t (.iface 26 (.int .i64 k))] [] (.t (.bool false)) [] := by
  refine ⟨⟨_, Tryz.func62, rfl⟩, fun vs w g hr hi => ?_⟩
  obtain ⟨hlen, hrel⟩ := hr
  match vs, hlen with
  | [v1, v2], _ =>
    have r1 := rel_t_inv (hrel 0 v1 _ rfl rfl)
    have r2 := rel_t_inv (hrel 1 v2 _ rfl rfl)
    cases r1
    cases r2 with
    | iface _ p2 _ r2 =>
      cases r2
      refine (is_nil k w).mono ?_
      rintro ev w' ⟨rfl, rfl⟩
      exact ⟨_, g, rfl, Ext.refl _ _, .t _ _ (.bool _), hi⟩

def IsOk (ft off : Nat) : Prop := ∀ (pb po : Nat) (n k : Int) (w : World), w.cell? ⟨pb, po + off, none⟩ = some (.int .i64 n) →
  Calls Tryz.prog 62 #[.iface ft (.pointer (some ⟨pb, po, none⟩)), .iface 26 (.int .i64 k)] w fun ev w' => ev = .returned (.bool (decide (n = k))) ∧ w' = w

theorem is_ct {ft off : Nat} (h : IsOk ft off) (cs : List T) (n k : Int) (hcs : cs[off]? = some (.int .i64 n)) :
    Ct Tryz.prog 62 [.t (.iface ft (.ptr cs)), .t (.iface 26 (.int .i64 k))] [] (.t (.bool (decide (n = k)))) [] := by
  refine ⟨⟨_, Tryz.func62, rfl⟩, fun vs w g hr hi => ?_⟩
  obtain ⟨hlen, hrel⟩ := hr
  match vs, hlen with
  | [v1, v2], _ =>
    have r1 := rel_t_inv (hrel 0 v1 _ rfl rfl)
    have r2 := rel_t_inv (hrel 1 v2 _ rfl rfl)
    cases r1 with
    | iface _ p1 _ r1 =>
      obtain ⟨pb, po, rfl, hc⟩ := ptr_inv r1
      cases r2 with
      | iface _ p2 _ r2 =>
        cases r2
        obtain ⟨_, _, x1, hx1, hx2⟩ := hc off _ hcs
        have hx3 : x1 = .int .i64 n := by cases hx2; rfl
        subst hx3
        refine (h pb po n k w hx1).mono ?_
        rintro ev w' ⟨rfl, rfl⟩
        exact ⟨_, g, rfl, Ext.refl _ _, .t _ _ (.bool _), hi⟩

theorem isEngine_ok : IsOk 97 1 := fun pb po n k w h => by
  by_cases e : n = k
  · subst e; simp only [decide_true]; exact isEngineT pb po n n w h rfl
  · simp only [e, decide_false]; exact isEngineF pb po n k w h e

theorem framed_ok (s : Bs) (hs : s.length ≤ 1024) : Ct Tryz.prog 61 [.t (.str s)] [] (.tuple [.t (.str (frameB s)), .t .nilIface]) [] := by
  refine ct0 progOk Tryz.func61 rfl false rfl rfl ?_
  repeat' (first | refine w_stepZ progOk rfl rfl rfl rfl rfl ?_ | refine w_step progOk rfl rfl rfl ?_ | refine w_nil ?_ | refine w_seq ?_ | refine w_reg progOk rfl rfl ?_ | (refine w_gTP rfl rfl rfl rfl rfl (ht := fun h => ?_) (hf := fun h => ?_) <;> try exact prn) | (refine w_gFP rfl rfl rfl rfl rfl (ht := fun h => ?_) (hf := fun h => ?_) <;> try exact prn) | refine w_guardU rfl rfl rfl rfl rfl ?_ | (refine w_condP rfl (ht := fun h => ?_) (hf := fun h => ?_) <;> try exact prn) | refine w_block ?_ | refine w_skip ?_ | refine w_exit ?_ | refine w_ret ?_ | refine w_index progOk rfl rfl rfl rfl rfl rfl rfl (map_get (by assumption)) rfl ?_ | refine w_indexE progOk rfl rfl rfl rfl rfl rfl rfl (by assumption) (map_get (by assumption)) rfl ?_ | refine w_appNil progOk rfl rfl rfl rfl rfl rfl rfl rfl rfl rfl rfl rfl rfl (by simp [chunk]; omega) ?_ | refine w_appRow progOk rfl rfl rfl rfl rfl rfl rfl rfl rfl rfl rfl rfl rfl rfl (by simp [chunk]; omega) ?_ | refine s_step rfl rfl rfl rfl ?_ | refine s_nil ?_ | (refine s_gTP rfl rfl rfl rfl rfl (ht := fun h => ?_) (hf := fun h => ?_) <;> try exact prn) | (refine s_gFP rfl rfl rfl rfl rfl (ht := fun h => ?_) (hf := fun h => ?_) <;> try exact prn) | refine s_guardU rfl rfl rfl rfl rfl ?_ | refine s_index rfl rfl rfl rfl rfl rfl rfl (map_get (by assumption)) rfl ?_ | refine w_call progOk rfl rfl rfl rfl rfl rfl rfl (fsize_ok _ hs) rfl rfl ?_ | refine w_call progOk rfl rfl rfl rfl rfl rfl rfl (fhead_ok _ hs) rfl rfl ?_ | refine w_sliceA progOk rfl rfl rfl rfl rfl rfl rfl (by simp) rfl ?_ | refine o_freezeBox 4 8 (cs := [.int .u8 ((UInt8.ofNat (s.length % 256)).toNat : Int), .int .u8 ((UInt8.ofNat (s.length / 256)).toNat : Int), .int .u8 0, .int .u8 0]) rfl rfl rfl rfl rfl ?_ | refine w_convS (s := [UInt8.ofNat (s.length % 256), UInt8.ofNat (s.length / 256), 0, 0]) progOk rfl rfl rfl rfl rfl rfl rfl rfl ?_ | refine w_addS progOk rfl rfl rfl rfl rfl (by simp; omega) ?_ | fail)
  exact w_fin rfl (Sub.of_eq rfl)

theorem fbytes_ok (s : Bs) (hs : s.length ≤ 1024) : Ct Tryz.prog 33 [.t (.str s)] [] (.tuple [.t (.str (frameB s)), .t (.int .i64 0)]) [] := by
  refine ct0 progOk Tryz.func33 rfl false rfl rfl ?_
  repeat' (first | refine w_stepZ progOk rfl rfl rfl rfl rfl ?_ | refine w_step progOk rfl rfl rfl ?_ | refine w_nil ?_ | refine w_seq ?_ | refine w_reg progOk rfl rfl ?_ | (refine w_gTP rfl rfl rfl rfl rfl (ht := fun h => ?_) (hf := fun h => ?_) <;> try exact prn) | (refine w_gFP rfl rfl rfl rfl rfl (ht := fun h => ?_) (hf := fun h => ?_) <;> try exact prn) | refine w_guardU rfl rfl rfl rfl rfl ?_ | (refine w_condP rfl (ht := fun h => ?_) (hf := fun h => ?_) <;> try exact prn) | refine w_block ?_ | refine w_skip ?_ | refine w_exit ?_ | refine w_ret ?_ | refine w_index progOk rfl rfl rfl rfl rfl rfl rfl (map_get (by assumption)) rfl ?_ | refine w_indexE progOk rfl rfl rfl rfl rfl rfl rfl (by assumption) (map_get (by assumption)) rfl ?_ | refine w_appNil progOk rfl rfl rfl rfl rfl rfl rfl rfl rfl rfl rfl rfl rfl (by simp [chunk]; omega) ?_ | refine w_appRow progOk rfl rfl rfl rfl rfl rfl rfl rfl rfl rfl rfl rfl rfl rfl (by simp [chunk]; omega) ?_ | refine s_step rfl rfl rfl rfl ?_ | refine s_nil ?_ | (refine s_gTP rfl rfl rfl rfl rfl (ht := fun h => ?_) (hf := fun h => ?_) <;> try exact prn) | (refine s_gFP rfl rfl rfl rfl rfl (ht := fun h => ?_) (hf := fun h => ?_) <;> try exact prn) | refine s_guardU rfl rfl rfl rfl rfl ?_ | refine s_index rfl rfl rfl rfl rfl rfl rfl (map_get (by assumption)) rfl ?_ | refine w_call progOk rfl rfl rfl rfl rfl rfl rfl (framed_ok s hs) rfl rfl ?_ | refine w_call progOk rfl rfl rfl rfl rfl rfl rfl (isNil_ct 2) rfl rfl ?_ | fail)
  exact w_fin rfl (Sub.of_eq rfl)

theorem eput_ok (name : Bs) (l : List Entry) (hl : l.length ≤ 1000000) (hsm : ∀ x ∈ l, smallE x) : Ct Tryz.prog 11 [.t (.str name), .t (.slice .any 18 (l.map encEntry))] [] (.tuple [.t (.slice .any 4 ((putR name l).map encWr)), .t (.int .i64 (putE l))]) [] := by
  refine ct0 progOk Tryz.func11 rfl false rfl rfl ?_
  have cl := loads_ok l hl hsm
  by_cases hall : l.all mayE = true
  · simp only [if_pos hall] at cl
    have hlm : ((l.map entryB).map encStr).length = l.length := by simp
    repeat' (first | refine w_stepZ progOk rfl rfl rfl rfl rfl ?_ | refine w_step progOk rfl rfl rfl ?_ | refine w_nil ?_ | refine w_seq ?_ | refine w_reg progOk rfl rfl ?_ | (refine w_gTP rfl rfl rfl rfl rfl (ht := fun h => ?_) (hf := fun h => ?_) <;> try exact prn) | (refine w_gFP rfl rfl rfl rfl rfl (ht := fun h => ?_) (hf := fun h => ?_) <;> try exact prn) | refine w_guardU rfl rfl rfl rfl rfl ?_ | (refine w_condP rfl (ht := fun h => ?_) (hf := fun h => ?_) <;> try exact prn) | refine w_block ?_ | refine w_skip ?_ | refine w_exit ?_ | refine w_ret ?_ | refine w_index progOk rfl rfl rfl rfl rfl rfl rfl (map_get (by assumption)) rfl ?_ | refine w_indexE progOk rfl rfl rfl rfl rfl rfl rfl (by assumption) (map_get (by assumption)) rfl ?_ | refine w_appNil progOk rfl rfl rfl rfl rfl rfl rfl rfl rfl rfl rfl rfl rfl (by simp [chunk]; omega) ?_ | refine w_appRow progOk rfl rfl rfl rfl rfl rfl rfl rfl rfl rfl rfl rfl rfl rfl (by simp [chunk]; omega) ?_ | refine s_step rfl rfl rfl rfl ?_ | refine s_nil ?_ | (refine s_gTP rfl rfl rfl rfl rfl (ht := fun h => ?_) (hf := fun h => ?_) <;> try exact prn) | (refine s_gFP rfl rfl rfl rfl rfl (ht := fun h => ?_) (hf := fun h => ?_) <;> try exact prn) | refine s_guardU rfl rfl rfl rfl rfl ?_ | refine s_index rfl rfl rfl rfl rfl rfl rfl (map_get (by assumption)) rfl ?_ | refine w_call progOk rfl rfl rfl rfl rfl rfl rfl (cl) rfl rfl ?_ | fail)
    · have hn : l = [] := List.eq_nil_of_length_eq_zero (by omega)
      subst hn
      refine w_fin rfl ?_
      simp only [putR, putE]
      exact sub_tuple ⟨sub_slNil, Sub.refl _, trivial⟩
    have hne : l ≠ [] := fun e => by subst e; simp at h
    refine Tr.nilRow 8 43 4 rfl rfl ?_
    refine w_loop (ι := Nat) (fun i => i ≤ l.length) (fun i => [(0, .t (.str name)), (8, .row 86 4 0 (((l.take i).map (wrOf name)).map encWr).length), (25, .t (.slice .any 1 ((l.map entryB).map encStr))), (26, .t (.int .i64 l.length)), (27, .t (.int .i64 i))]) (fun i => [(86, .grow 4 (((l.take i).map (wrOf name)).map encWr))]) (fun i => l.length - i) 0 (by simp) ?_ ?_
    · exact at_of [] (sub_eq rfl rfl (sub_eq rfl rfl (sub_eq rfl rfl (sub_eq rfl (by rw [hlm]) (sub_eq rfl rfl sub_nil))))) rfl
    rintro i hi
    by_cases hlt : i < l.length
    · have hr : l[i]? = some l[i] := List.getElem?_eq_getElem hlt
      have hm := List.all_eq_true.1 hall l[i] (List.getElem_mem hlt)
      generalize l[i] = r at hr hm
      have hr2 : (l.map entryB)[i]? = some (entryB r) := by simp [hr]
      repeat' (first | refine w_stepZ progOk rfl rfl rfl rfl rfl ?_ | refine w_step progOk rfl rfl rfl ?_ | refine w_nil ?_ | refine w_seq ?_ | refine w_reg progOk rfl rfl ?_ | (refine w_gTP rfl rfl rfl rfl rfl (ht := fun h => ?_) (hf := fun h => ?_) <;> try exact prn) | (refine w_gFP rfl rfl rfl rfl rfl (ht := fun h => ?_) (hf := fun h => ?_) <;> try exact prn) | refine w_guardU rfl rfl rfl rfl rfl ?_ | (refine w_condP rfl (ht := fun h => ?_) (hf := fun h => ?_) <;> try exact prn) | refine w_block ?_ | refine w_skip ?_ | refine w_exit ?_ | refine w_ret ?_ | refine w_index progOk rfl rfl rfl rfl rfl rfl rfl (map_get (by assumption)) rfl ?_ | refine w_indexE progOk rfl rfl rfl rfl rfl rfl rfl (by assumption) (map_get (by assumption)) rfl ?_ | refine w_appNil progOk rfl rfl rfl rfl rfl rfl rfl rfl rfl rfl rfl rfl rfl (by simp [chunk]; omega) ?_ | refine w_appRow progOk rfl rfl rfl rfl rfl rfl rfl rfl rfl rfl rfl rfl rfl rfl (by simp [chunk]; omega) ?_ | refine s_step rfl rfl rfl rfl ?_ | refine s_nil ?_ | (refine s_gTP rfl rfl rfl rfl rfl (ht := fun h => ?_) (hf := fun h => ?_) <;> try exact prn) | (refine s_gFP rfl rfl rfl rfl rfl (ht := fun h => ?_) (hf := fun h => ?_) <;> try exact prn) | refine s_guardU rfl rfl rfl rfl rfl ?_ | refine s_index rfl rfl rfl rfl rfl rfl rfl (map_get (by assumption)) rfl ?_ | refine w_call progOk rfl rfl rfl rfl rfl rfl rfl (fbytes_ok _ (entryB_len hm)) rfl rfl ?_ | fail)
      refine w_next (i + 1) hlt (by omega) [] (sub_eq rfl rfl (sub_eq rfl ?_ (sub_eq rfl rfl (sub_eq rfl rfl (sub_eq rfl ?_ sub_nil))))) ?_
      · rw [take_succ hr]; simp [chunk]
      · rw [wrap64 (by omega) (by omega)]; rfl
      · rw [take_succ hr]; simp [chunk, ti88, encWr, wrOf, dropS, killS]
    · repeat' (first | refine w_stepZ progOk rfl rfl rfl rfl rfl ?_ | refine w_step progOk rfl rfl rfl ?_ | refine w_nil ?_ | refine w_seq ?_ | refine w_reg progOk rfl rfl ?_ | (refine w_gTP rfl rfl rfl rfl rfl (ht := fun h => ?_) (hf := fun h => ?_) <;> try exact prn) | (refine w_gFP rfl rfl rfl rfl rfl (ht := fun h => ?_) (hf := fun h => ?_) <;> try exact prn) | refine w_guardU rfl rfl rfl rfl rfl ?_ | (refine w_condP rfl (ht := fun h => ?_) (hf := fun h => ?_) <;> try exact prn) | refine w_block ?_ | refine w_skip ?_ | refine w_exit ?_ | refine w_ret ?_ | refine w_index progOk rfl rfl rfl rfl rfl rfl rfl (map_get (by assumption)) rfl ?_ | refine w_indexE progOk rfl rfl rfl rfl rfl rfl rfl (by assumption) (map_get (by assumption)) rfl ?_ | refine w_appNil progOk rfl rfl rfl rfl rfl rfl rfl rfl rfl rfl rfl rfl rfl (by simp [chunk]; omega) ?_ | refine w_appRow progOk rfl rfl rfl rfl rfl rfl rfl rfl rfl rfl rfl rfl rfl rfl (by simp [chunk]; omega) ?_ | refine s_step rfl rfl rfl rfl ?_ | refine s_nil ?_ | (refine s_gTP rfl rfl rfl rfl rfl (ht := fun h => ?_) (hf := fun h => ?_) <;> try exact prn) | (refine s_gFP rfl rfl rfl rfl rfl (ht := fun h => ?_) (hf := fun h => ?_) <;> try exact prn) | refine s_guardU rfl rfl rfl rfl rfl ?_ | refine s_index rfl rfl rfl rfl rfl rfl rfl (map_get (by assumption)) rfl ?_ | fail)
      refine w_fin rfl (Sub.of_eq ?_)
      simp only [putR, putE, hne, hall, ne_eq, not_false_eq_true, and_self, if_true]
      rw [List.take_of_length_le (by omega)]
      simp [frzA, putW, chunk, ti88, encWr, wrOf]
      exact List.take_of_length_le (by simp)
  · simp only [if_neg hall] at cl
    repeat' (first | refine w_stepZ progOk rfl rfl rfl rfl rfl ?_ | refine w_step progOk rfl rfl rfl ?_ | refine w_nil ?_ | refine w_seq ?_ | refine w_reg progOk rfl rfl ?_ | (refine w_gTP rfl rfl rfl rfl rfl (ht := fun h => ?_) (hf := fun h => ?_) <;> try exact prn) | (refine w_gFP rfl rfl rfl rfl rfl (ht := fun h => ?_) (hf := fun h => ?_) <;> try exact prn) | refine w_guardU rfl rfl rfl rfl rfl ?_ | (refine w_condP rfl (ht := fun h => ?_) (hf := fun h => ?_) <;> try exact prn) | refine w_block ?_ | refine w_skip ?_ | refine w_exit ?_ | refine w_ret ?_ | refine w_index progOk rfl rfl rfl rfl rfl rfl rfl (map_get (by assumption)) rfl ?_ | refine w_indexE progOk rfl rfl rfl rfl rfl rfl rfl (by assumption) (map_get (by assumption)) rfl ?_ | refine w_appNil progOk rfl rfl rfl rfl rfl rfl rfl rfl rfl rfl rfl rfl rfl (by simp [chunk]; omega) ?_ | refine w_appRow progOk rfl rfl rfl rfl rfl rfl rfl rfl rfl rfl rfl rfl rfl rfl (by simp [chunk]; omega) ?_ | refine s_step rfl rfl rfl rfl ?_ | refine s_nil ?_ | (refine s_gTP rfl rfl rfl rfl rfl (ht := fun h => ?_) (hf := fun h => ?_) <;> try exact prn) | (refine s_gFP rfl rfl rfl rfl rfl (ht := fun h => ?_) (hf := fun h => ?_) <;> try exact prn) | refine s_guardU rfl rfl rfl rfl rfl ?_ | refine s_index rfl rfl rfl rfl rfl rfl rfl (map_get (by assumption)) rfl ?_ | refine w_call progOk rfl rfl rfl rfl rfl rfl rfl (cl) rfl rfl ?_ | fail)
    refine w_fin rfl ?_
    simp only [putR, putE, hall, Bool.false_eq_true, and_false, if_false]
    exact sub_tuple ⟨sub_slNil, Sub.refl _, trivial⟩

end Go.Proofs.YtpdmaenhenfofaaGreatDoor
