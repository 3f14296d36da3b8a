/- Contracts and laws, joined: Tk, Tl, Tm. No condition beside those that each theorem names. -/
import Derived.Test.YtpdmaenhenfofaaGreatDoorZM10
import Derived.Test.YtpdmaenhenfofaaGreatDoorZJ15
set_option linter.unusedVariables false
set_option linter.unusedSimpArgs false
namespace Go.Proofs.YtpdmaenhenfofaaGreatDoor
open Go.Am
attribute [local irreducible] Decidable.decide
set_option maxRecDepth 100000
set_option maxHeartbeats 1000000
def entC (n : Int) : Entry := { kind := 2, b := ⟨0, 0, 0, false, []⟩, yes := false, next := 0, offset := n, row := ⟨0, 0, 0, [], []⟩, prod := prodZ }
theorem entC_may {n : Int} (h1 : 0 ≤ n) (h2 : n ≤ 1048576) : mayE (entC n) = true := by
  have hb : isBare (entC n) = true := by simp [isBare, bareE, entC, bareB, prodZ]
  simp only [mayE, hb, Bool.true_and]
  simp [entC, h1, h2]
theorem rcutBad_ok (p : Part) (n : Int) (hs : smallPart p) (hp : readOk p = true) (hin : n < p.start ∨ p.fin < n) : Ct Tryz.prog 78 [.agg (liftT (encPart p)), .t (.int .i64 n)] [] (.tuple [.agg (liftT (encPart partZ)), .t (.int .i64 130)]) [] := by
  obtain ⟨h1, h2, h3, h4, h5⟩ := hs
  have cpl := place_ok p n hp (by omega) (by omega)
  rw [show placeT p n = faultT 290 [97, 32, 112, 108, 97, 99, 101] 130 from if_pos hin] at cpl
  refine ct0 progOk Tryz.func78 rfl false rfl rfl ?_
  repeat' (first | refine w_stepZ progOk rfl rfl rfl rfl rfl ?_ | refine w_step progOk rfl rfl rfl ?_ | refine w_nil ?_ | refine w_seq ?_ | refine w_reg progOk rfl rfl ?_ | (refine w_condP rfl (ht := fun h => ?_) (hf := fun h => ?_) <;> try exact prn) | refine w_ret ?_ | refine w_call progOk rfl rfl rfl rfl rfl rfl rfl (cpl) rfl rfl ?_ | refine w_call progOk rfl rfl rfl rfl rfl rfl rfl (rdcode_ok [97, 32, 112, 108, 97, 99, 101] 130) rfl rfl ?_ | fail)
  exact w_fin rfl (sub_tuple ⟨partZ_sub, Sub.refl _, trivial⟩)
def Cut (e q : Int) (p : Part) (n : Int) : EO :=
  if badOf e q p = true then ⟨partZ, [], 2⟩
  else if n < p.start ∨ p.fin < n then ⟨partZ, [], 130⟩
  else ⟨cutP p n, putW (logN e q) [entC n], 0⟩
theorem Cut_ok (e q : Int) (p : Part) (n : Int) (hs : smallPart p) : Ct Tryz.prog 43 [.t (.int .i8 e), .t (.int .i64 q), .agg (liftT (encPart p)), .t (.int .i64 n)] [] (Cut e q p n).av [] := by
  cases hbad : badOf e q p with
  | true =>
    have cof := of_ok e q p hs
    obtain ⟨h1, s, h2⟩ := of_bad hbad
    have hr : Cut e q p n = ⟨partZ, [], 2⟩ := by simp [Cut, hbad]
    rw [hr]
    rw [h1, h2] at cof
    refine ct0 progOk Tryz.func43 rfl false rfl rfl ?_
    repeat' (first | refine w_stepZ progOk rfl rfl rfl rfl rfl ?_ | refine w_step progOk rfl rfl rfl ?_ | refine w_nil ?_ | refine w_seq ?_ | refine w_reg progOk rfl rfl ?_ | (refine w_condP rfl (ht := fun h => ?_) (hf := fun h => ?_) <;> try exact prn) | refine w_ret ?_ | refine w_call progOk rfl rfl rfl rfl rfl rfl rfl (cof) rfl rfl ?_ | refine w_call progOk rfl rfl rfl rfl rfl rfl rfl (encode_ok s 2) rfl rfl ?_ | fail)
    exact w_fin rfl (sub_tuple ⟨partZ_sub, sub_slNil, Sub.refl _, trivial⟩)
  | false =>
    have cof := ofW_ok e q p hbad hs
    obtain ⟨_, he, hq, hpk⟩ := of_good hbad
    have hP := partOk_iff.1 hpk
    have hro : readOk p = true := by
      have h := hpk
      simp only [partOk, headOk3, Bool.and_eq_true] at h
      exact h.1.1
    by_cases hin : n < p.start ∨ p.fin < n
    · have hr : Cut e q p n = ⟨partZ, [], 130⟩ := by simp [Cut, hbad, hin]
      rw [hr]
      have cc := rcutBad_ok p n hs hro hin
      refine ct0 progOk Tryz.func43 rfl false rfl rfl ?_
      repeat' (first | refine w_stepZ progOk rfl rfl rfl rfl rfl ?_ | refine w_step progOk rfl rfl rfl ?_ | refine w_nil ?_ | refine w_seq ?_ | refine w_reg progOk rfl rfl ?_ | (refine w_condP rfl (ht := fun h => ?_) (hf := fun h => ?_) <;> try exact prn) | refine w_skip ?_ | refine w_ret ?_ | refine w_call progOk rfl rfl rfl rfl rfl rfl rfl (cof) rfl rfl ?_ | refine w_call progOk rfl rfl rfl rfl rfl rfl rfl (cc) rfl rfl ?_ | fail)
      exact w_fin rfl (sub_tuple ⟨partZ_sub, sub_slNil, Sub.refl _, trivial⟩)
    · have hr : Cut e q p n = ⟨cutP p n, putW (logN e q) [entC n], 0⟩ := by simp [Cut, hbad, hin]
      rw [hr]
      have cc := rcut_ok p n hs hro hP.srt (by omega)
      have b0 := hP.b0
      have b2 := hP.b2
      have hm := entC_may (n := n) (by omega) (by omega)
      have ep := eput_ok (logN e q) [entC n] (by simp) (by simp [smallE, entC, prodZ])
      rw [show putE [entC n] = 0 by simp [putE, hm], show putR (logN e q) [entC n] = putW (logN e q) [entC n] by simp [putR, hm]] at ep
      have cl := spotLog_ok e q he hq
      have hw : (e = 0 ∧ wrT e q = .iface 152 (.agg (encSpot e q))) ∨ (e = 1 ∧ wrT e q = .iface 153 (.agg (encSpot e q))) := by
        rcases he with rfl | rfl
        · exact .inl ⟨rfl, rfl⟩
        · exact .inr ⟨rfl, rfl⟩
      rcases hw with ⟨he1, hw⟩ | ⟨he1, hw⟩
      · rw [hw] at cof
        refine ct0 progOk Tryz.func43 rfl false rfl rfl ?_
        repeat' (first | refine w_stepZ progOk rfl rfl rfl rfl rfl ?_ | refine w_step progOk rfl rfl rfl ?_ | refine w_nil ?_ | refine w_seq ?_ | refine w_reg progOk rfl rfl ?_ | (refine w_condP rfl (ht := fun h => ?_) (hf := fun h => ?_) <;> try exact prn) | refine w_skip ?_ | refine w_ret ?_ | refine w_call progOk rfl rfl rfl rfl rfl rfl rfl (cof) rfl rfl ?_ | refine w_call progOk rfl rfl rfl rfl rfl rfl rfl (cc) rfl rfl ?_ | refine w_call progOk rfl rfl rfl rfl rfl rfl rfl (cl) rfl rfl ?_ | refine w_callZ progOk rfl rfl rfl rfl ep rfl rfl rfl ⟨Sub.refl _, sub_sl ⟨⟨SubT.refl _, SubT.refl _, SubT.refl _, SubT.refl _, SubT.refl _, SubT.nil, SubT.refl _, SubT.refl _, SubT.refl _, SubT.refl _, SubT.refl _, SubT.refl _, SubT.refl _, SubT.refl _, SubT.refl _, SubT.refl _, SubT.refl _, SubT.nil, trivial⟩, trivial⟩, trivial⟩ ?_ | fail)
        exact w_fin rfl (Sub.refl _)
      · rw [hw] at cof
        refine ct0 progOk Tryz.func43 rfl false rfl rfl ?_
        repeat' (first | refine w_stepZ progOk rfl rfl rfl rfl rfl ?_ | refine w_step progOk rfl rfl rfl ?_ | refine w_nil ?_ | refine w_seq ?_ | refine w_reg progOk rfl rfl ?_ | (refine w_condP rfl (ht := fun h => ?_) (hf := fun h => ?_) <;> try exact prn) | refine w_skip ?_ | refine w_ret ?_ | refine w_call progOk rfl rfl rfl rfl rfl rfl rfl (cof) rfl rfl ?_ | refine w_call progOk rfl rfl rfl rfl rfl rfl rfl (cc) rfl rfl ?_ | refine w_call progOk rfl rfl rfl rfl rfl rfl rfl (cl) rfl rfl ?_ | refine w_callZ progOk rfl rfl rfl rfl ep rfl rfl rfl ⟨Sub.refl _, sub_sl ⟨⟨SubT.refl _, SubT.refl _, SubT.refl _, SubT.refl _, SubT.refl _, SubT.nil, SubT.refl _, SubT.refl _, SubT.refl _, SubT.refl _, SubT.refl _, SubT.refl _, SubT.refl _, SubT.refl _, SubT.refl _, SubT.refl _, SubT.refl _, SubT.nil, trivial⟩, trivial⟩, trivial⟩ ?_ | fail)
        exact w_fin rfl (Sub.refl _)
end Go.Proofs.YtpdmaenhenfofaaGreatDoor

namespace Go.Proofs.YtpdmaenhenfofaaGreatDoor
open Go.Am
attribute [local irreducible] Decidable.decide
set_option maxRecDepth 100000
set_option maxHeartbeats 1000000
structure Act2 where
  kind : Int
  b : Batch
  pid : Int
  yes : Bool
  to : Int
def encAct2 (a : Act2) : List T := .int .i64 a.kind :: encBatch a.b ++ [.int .i64 a.pid, .bool a.yes, .int .i64 a.to]
def txB (a : Act2) : Batch := { a.b with txn := decide (a.b.pid ≤ 5) }
def does (e : Int) (p : Part) (a : Act2) : PO :=
  if a.kind = 0 then (if (Produce e 1 p (txB a)).e ≠ 0 then ⟨p, 0, [], (Produce e 1 p (txB a)).e⟩ else Produce e 1 p (txB a))
  else if a.kind = 1 then (if (End e 1 p a.pid a.yes).e ≠ 0 then ⟨p, 0, [], (End e 1 p a.pid a.yes).e⟩ else ⟨(End e 1 p a.pid a.yes).part, 0, (End e 1 p a.pid a.yes).w, (End e 1 p a.pid a.yes).e⟩)
  else if a.kind = 2 then (if (Cut e 1 p a.to).e ≠ 0 then ⟨p, 0, [], (Cut e 1 p a.to).e⟩ else ⟨(Cut e 1 p a.to).part, 0, (Cut e 1 p a.to).w, (Cut e 1 p a.to).e⟩)
  else ⟨p, 0, [], 0⟩
theorem does_ok (e : Int) (p : Part) (a : Act2) (hs : smallPart p) (hl : a.b.recs.length ≤ 1000000) : Ct Tryz.prog 20 [.t (.int .i8 e), .agg (liftT (encPart p)), .agg (liftT (encAct2 a))] [] (does e p a).av [] := by
  have cp := Produce_ok e 1 p (txB a) hs hl
  have ce := End_ok e 1 p a.pid a.yes hs
  have cc := Cut_ok e 1 p a.to hs
  unfold does
  by_cases h0 : a.kind = 0
  · rw [if_pos h0]
    generalize Produce e 1 p (txB a) = r at cp
    unfold PO.av at cp
    by_cases hr : r.e = 0
    · rw [if_neg (by simpa using hr)]
      refine ct0 progOk Tryz.func20 rfl false rfl rfl ?_
      repeat' (first | refine w_stepZ progOk rfl rfl rfl rfl rfl ?_ | refine w_step progOk rfl rfl rfl ?_ | refine w_nil ?_ | refine w_seq ?_ | refine w_reg progOk rfl rfl ?_ | (refine w_condP rfl (ht := fun h => ?_) (hf := fun h => ?_) <;> try exact prn) | refine w_block ?_ | refine w_skip ?_ | refine w_ret ?_ | refine w_call progOk rfl rfl rfl rfl rfl rfl rfl (cp) rfl rfl ?_ | fail)
      exact w_fin rfl (Sub.refl _)
    · rw [if_pos hr]
      refine ct0 progOk Tryz.func20 rfl false rfl rfl ?_
      repeat' (first | refine w_stepZ progOk rfl rfl rfl rfl rfl ?_ | refine w_step progOk rfl rfl rfl ?_ | refine w_nil ?_ | refine w_seq ?_ | refine w_reg progOk rfl rfl ?_ | (refine w_condP rfl (ht := fun h => ?_) (hf := fun h => ?_) <;> try exact prn) | refine w_block ?_ | refine w_ret ?_ | refine w_call progOk rfl rfl rfl rfl rfl rfl rfl (cp) rfl rfl ?_ | fail)
      exact w_fin rfl (sub_tuple ⟨Sub.refl _, Sub.refl _, sub_slNil, Sub.refl _, trivial⟩)
  rw [if_neg h0]
  by_cases h1 : a.kind = 1
  · rw [if_pos h1]
    generalize End e 1 p a.pid a.yes = r at ce
    unfold EO.av at ce
    by_cases hr : r.e = 0
    · rw [if_neg (by simpa using hr)]
      refine ct0 progOk Tryz.func20 rfl false rfl rfl ?_
      repeat' (first | refine w_stepZ progOk rfl rfl rfl rfl rfl ?_ | refine w_step progOk rfl rfl rfl ?_ | refine w_nil ?_ | refine w_seq ?_ | refine w_reg progOk rfl rfl ?_ | (refine w_condP rfl (ht := fun h => ?_) (hf := fun h => ?_) <;> try exact prn) | refine w_block ?_ | refine w_skip ?_ | refine w_ret ?_ | refine w_call progOk rfl rfl rfl rfl rfl rfl rfl (ce) rfl rfl ?_ | fail)
      exact w_fin rfl (Sub.refl _)
    · rw [if_pos hr]
      refine ct0 progOk Tryz.func20 rfl false rfl rfl ?_
      repeat' (first | refine w_stepZ progOk rfl rfl rfl rfl rfl ?_ | refine w_step progOk rfl rfl rfl ?_ | refine w_nil ?_ | refine w_seq ?_ | refine w_reg progOk rfl rfl ?_ | (refine w_condP rfl (ht := fun h => ?_) (hf := fun h => ?_) <;> try exact prn) | refine w_block ?_ | refine w_ret ?_ | refine w_call progOk rfl rfl rfl rfl rfl rfl rfl (ce) rfl rfl ?_ | fail)
      exact w_fin rfl (sub_tuple ⟨Sub.refl _, Sub.refl _, sub_slNil, Sub.refl _, trivial⟩)
  rw [if_neg h1]
  by_cases h2 : a.kind = 2
  · rw [if_pos h2]
    generalize Cut e 1 p a.to = r at cc
    unfold EO.av at cc
    by_cases hr : r.e = 0
    · rw [if_neg (by simpa using hr)]
      refine ct0 progOk Tryz.func20 rfl false rfl rfl ?_
      repeat' (first | refine w_stepZ progOk rfl rfl rfl rfl rfl ?_ | refine w_step progOk rfl rfl rfl ?_ | refine w_nil ?_ | refine w_seq ?_ | refine w_reg progOk rfl rfl ?_ | (refine w_condP rfl (ht := fun h => ?_) (hf := fun h => ?_) <;> try exact prn) | refine w_block ?_ | refine w_skip ?_ | refine w_ret ?_ | refine w_call progOk rfl rfl rfl rfl rfl rfl rfl (cc) rfl rfl ?_ | fail)
      exact w_fin rfl (Sub.refl _)
    · rw [if_pos hr]
      refine ct0 progOk Tryz.func20 rfl false rfl rfl ?_
      repeat' (first | refine w_stepZ progOk rfl rfl rfl rfl rfl ?_ | refine w_step progOk rfl rfl rfl ?_ | refine w_nil ?_ | refine w_seq ?_ | refine w_reg progOk rfl rfl ?_ | (refine w_condP rfl (ht := fun h => ?_) (hf := fun h => ?_) <;> try exact prn) | refine w_block ?_ | refine w_ret ?_ | refine w_call progOk rfl rfl rfl rfl rfl rfl rfl (cc) rfl rfl ?_ | fail)
      exact w_fin rfl (sub_tuple ⟨Sub.refl _, Sub.refl _, sub_slNil, Sub.refl _, trivial⟩)
  rw [if_neg h2]
  refine ct0 progOk Tryz.func20 rfl false rfl rfl ?_
  repeat' (first | refine w_stepZ progOk rfl rfl rfl rfl rfl ?_ | refine w_step progOk rfl rfl rfl ?_ | refine w_nil ?_ | refine w_seq ?_ | refine w_reg progOk rfl rfl ?_ | (refine w_condP rfl (ht := fun h => ?_) (hf := fun h => ?_) <;> try exact prn) | refine w_block ?_ | refine w_skip ?_ | refine w_ret ?_ | fail)
  exact w_fin rfl (sub_tuple ⟨Sub.refl _, Sub.refl _, sub_slNil, Sub.refl _, trivial⟩)
end Go.Proofs.YtpdmaenhenfofaaGreatDoor

namespace Go.Proofs.YtpdmaenhenfofaaGreatDoor
open Go.Am
attribute [local irreducible] Decidable.decide
set_option maxRecDepth 100000
set_option maxHeartbeats 1000000
def greatAs (l : List Act2) : Bool := decide (60 < (l.length : Int)) || l.any (fun a => greatBs [a.b])
theorem great17_ok (l : List Act2) : Ct Tryz.prog 19 [.t (.slice .any 9 (l.map encAct2))] [] (.t (.bool (greatAs l))) [] := by
  have hlm : (l.map encAct2).length = l.length := List.length_map ..
  refine ct0 progOk Tryz.func19 rfl false rfl rfl ?_
  repeat' (first | refine w_step progOk rfl rfl rfl ?_ | refine w_nil ?_ | refine w_seq ?_ | refine w_reg progOk rfl rfl ?_ | (refine w_condP rfl (ht := fun h => ?_) (hf := fun h => ?_) <;> try exact prn) | refine w_block ?_ | refine w_skip ?_ | refine w_ret ?_ | fail)
  · exact w_fin rfl (Sub.of_eq (by rw [show greatAs l = true by rw [greatAs, decide_eq_true (by simpa [hlm] using h)]; rfl]))
  have hle : (l.length : Int) ≤ 60 := by have := h; simp [hlm] at this; omega
  refine w_loop (ι := Nat) (fun i => i ≤ l.length ∧ (l.take i).any (fun a => greatBs [a.b]) = false) (fun i => [(8, .t (.slice .any 9 (l.map encAct2))), (9, .t (.int .i64 ((l.map encAct2).length : Int))), (10, .t (.int .i64 i))]) (fun _ => []) (fun i => l.length - i) 0 (by simp) ?_ ?_
  · exact at_of [] (sub_eq rfl rfl (sub_eq rfl rfl (sub_eq rfl rfl sub_nil))) rfl
  rintro i ⟨hi, hany⟩
  by_cases hlt : i < l.length
  · have hr : l[i]? = some l[i] := List.getElem?_eq_getElem hlt
    generalize l[i] = r at hr
    have cg := greatBs_ok [r.b]
    cases hg : greatBs [r.b] with
    | true =>
      rw [hg] at cg
      have ha : l.any (fun a => greatBs [a.b]) = true := List.any_eq_true.2 ⟨r, List.mem_of_getElem? hr, hg⟩
      repeat' (first | refine w_stepZ progOk rfl rfl rfl rfl rfl ?_ | refine w_step progOk rfl rfl rfl ?_ | refine w_nil ?_ | refine w_seq ?_ | refine w_reg progOk rfl rfl ?_ | (refine w_condP rfl (ht := fun h => ?_) (hf := fun h => ?_) <;> try exact prn) | refine w_block ?_ | refine w_skip ?_ | refine w_ret ?_ | refine w_index progOk rfl rfl rfl rfl rfl rfl rfl (map_get (by assumption)) rfl ?_ | refine w_call progOk rfl rfl rfl rfl rfl rfl rfl ((Ct.args cg ⟨sub_slice, trivial⟩)) rfl rfl ?_ | fail)
      exact w_fin rfl (Sub.of_eq (by rw [show greatAs l = true by rw [greatAs, ha]; simp]))
    | false =>
      rw [hg] at cg
      repeat' (first | refine w_stepZ progOk rfl rfl rfl rfl rfl ?_ | refine w_step progOk rfl rfl rfl ?_ | refine w_nil ?_ | refine w_seq ?_ | refine w_reg progOk rfl rfl ?_ | (refine w_condP rfl (ht := fun h => ?_) (hf := fun h => ?_) <;> try exact prn) | refine w_block ?_ | refine w_skip ?_ | refine w_index progOk rfl rfl rfl rfl rfl rfl rfl (map_get (by assumption)) rfl ?_ | refine w_call progOk rfl rfl rfl rfl rfl rfl rfl ((Ct.args cg ⟨sub_slice, trivial⟩)) rfl rfl ?_ | fail)
      refine w_next (i + 1) ⟨hlt, any_take_succ hr hany hg⟩ (by omega) [4] (sub_eq rfl rfl (sub_eq rfl rfl (sub_eq rfl ?_ sub_nil))) rfl
      rw [wrap64 (by omega) (by omega)]; rfl
  · repeat' (first | refine w_step progOk rfl rfl rfl ?_ | refine w_nil ?_ | refine w_seq ?_ | refine w_reg progOk rfl rfl ?_ | (refine w_condP rfl (ht := fun h => ?_) (hf := fun h => ?_) <;> try exact prn) | refine w_exit ?_ | refine w_ret ?_ | fail)
    have ha := any_take_all (by omega) hany
    exact w_fin rfl (Sub.of_eq (by rw [show greatAs l = false by rw [greatAs, ha, decide_eq_false (by omega)]; rfl]))
end Go.Proofs.YtpdmaenhenfofaaGreatDoor
