/- Contracts and laws, joined: Pp, Pq, Pr, Ps. No condition beside those that each theorem names. -/
import Derived.Test.YtpdmaenhenfofaaGreatDoorZJ5
import Derived.Test.YtpdmaenhenfofaaGreatDoorZEb
import Derived.Test.YtpdmaenhenfofaaGreatDoorZM5
import Derived.Test.YtpdmaenhenfofaaGreatDoorZEc
set_option linter.unusedVariables false
set_option linter.unusedSimpArgs false
namespace Go.Proofs.YtpdmaenhenfofaaGreatDoor
open Go.Am
attribute [local irreducible] Decidable.decide
set_option maxRecDepth 100000
set_option maxHeartbeats 1000000
theorem loads_ok (l : List Entry) (hl : l.length ≤ 1000000) (hsm : ∀ x ∈ l, smallE x) : Ct Tryz.prog 32 [.t (.slice .any 18 (l.map encEntry))] [] (.tuple [.t (.slice .any 1 (if l.all mayE = true then (l.map entryB).map encStr else [])), .t (.int .i64 (if l.all mayE = true then 0 else 2))]) [] := by
  refine ct0 progOk Tryz.func32 rfl false rfl rfl ?_
  have ce := each_ok l hl hsm
  unfold eachV at ce
  by_cases ha : l.all mayE = true
  · rw [if_pos ha] at ce; simp only [if_pos ha]
    repeat' (first | refine w_step progOk rfl rfl rfl ?_ | refine w_nil ?_ | refine w_seq ?_ | refine w_reg progOk rfl rfl ?_ | refine w_ret ?_ | refine w_call progOk rfl rfl rfl rfl rfl rfl rfl (ce) rfl rfl ?_ | refine w_call progOk rfl rfl rfl rfl rfl rfl rfl (ecode_nil) rfl rfl ?_ | fail)
    exact w_fin rfl (Sub.of_eq rfl)
  · rw [if_neg ha] at ce; simp only [if_neg ha]
    repeat' (first | refine w_step progOk rfl rfl rfl ?_ | refine w_nil ?_ | refine w_seq ?_ | refine w_reg progOk rfl rfl ?_ | refine w_ret ?_ | refine w_call progOk rfl rfl rfl rfl rfl rfl rfl (ce) rfl rfl ?_ | refine w_call progOk rfl rfl rfl rfl rfl rfl rfl (ecode_ok _ _) rfl rfl ?_ | fail)
    exact w_fin rfl (Sub.of_eq rfl)
theorem fsize_ok (n : Nat) (hn : n ≤ 1024) : Ct Tryz.prog 111 [.t (.int .i64 n)] [] (.t (.int .i64 ((n + 4 : Nat) : Int))) [] := by
  refine ct0 progOk Tryz.func111 rfl false rfl rfl ?_
  repeat' (first | refine w_step progOk rfl rfl rfl ?_ | refine w_nil ?_ | refine w_seq ?_ | refine w_reg progOk rfl rfl ?_ | (refine w_condP rfl (ht := fun h => ?_) (hf := fun h => ?_) <;> try exact prn) | refine w_block ?_ | refine w_skip ?_ | refine w_exit ?_ | refine w_ret ?_ | fail)
  refine w_fin rfl (Sub.of_eq ?_)
  rw [wrap64 (by omega) (by omega)]; congr 2; omega
def headC (n i : Nat) : List AV := [.t (.int .u8 (if 0 < i then ((UInt8.ofNat (n % 256)).toNat : Int) else 0)), .t (.int .u8 (if 1 < i then ((UInt8.ofNat (n / 256)).toNat : Int) else 0)), .t (.int .u8 0), .t (.int .u8 0)]
theorem u8_mod {n m : Nat} (h : m = n % 256) : IntKind.u8.wrap (n : Int) = ((UInt8.ofNat m).toNat : Int) := by
  subst h
  simp [IntKind.wrap, IntKind.bits, IntKind.signed]
theorem fhead_ok (n : Nat) (hn : n ≤ 1024) : Ct Tryz.prog 112 [.t (.int .i64 n)] [] (.agg (headC n 4)) [] := by
  refine ct0 progOk Tryz.func112 rfl false rfl rfl ?_
  repeat' (first | refine w_step progOk rfl rfl rfl ?_ | refine w_nil ?_ | refine w_seq ?_ | refine w_reg progOk rfl rfl ?_ | refine w_block ?_ | fail)
  refine w_loop (ι := Nat) (fun i => i ≤ 4) (fun i => [(0, .t (.int .i64 n)), (2, .ref 4 0), (3, .ref 6 0), (5, .t (.int .i64 i))]) (fun i => [(6, .cells (headC n i)), (4, .cells (liftT ti218.zero))]) (fun i => 4 - i) 0 (by simp) ?_ ?_
  · exact at_of [] (sub_eq rfl rfl (sub_eq rfl rfl (sub_eq rfl rfl (sub_eq rfl rfl sub_nil)))) rfl
  have f0 : Int.fdiv (n : Int) (2 ^ min 0 64) = ((n : Nat) : Int) := by simp
  have f1 : Int.fdiv (n : Int) (2 ^ min 8 64) = ((n / 256 : Nat) : Int) := by simp [Int.fdiv_eq_ediv]
  have f2 : Int.fdiv (n : Int) (2 ^ min 16 64) = ((0 : Nat) : Int) := by simp [Int.fdiv_eq_ediv]; omega
  have f3 : Int.fdiv (n : Int) (2 ^ min 24 64) = ((0 : Nat) : Int) := by simp [Int.fdiv_eq_ediv]; omega
  intro i hi
  match i, hi with
  | 0, _ =>
    repeat' (first | refine w_stepZ progOk rfl rfl rfl rfl rfl ?_ | refine w_step progOk rfl rfl rfl ?_ | refine w_nil ?_ | refine w_seq ?_ | refine w_reg progOk rfl rfl ?_ | (refine w_condP rfl (ht := fun h => ?_) (hf := fun h => ?_) <;> try exact prn) | refine w_block ?_ | refine w_skip ?_ | refine w_shr progOk 0 rfl rfl rfl rfl (wrap64 (by decide) (by decide)) rfl ?_ | fail)
    refine w_next 1 (by omega) (by omega) [] (sub_eq rfl rfl (sub_eq rfl rfl (sub_eq rfl rfl (sub_eq rfl ?_ sub_nil)))) ?_
    · rw [wrap64 (by decide) (by decide)]; rfl
    · rw [show IntKind.i64.bits = 64 from rfl, f0, u8_mod rfl]; rfl
  | 1, _ =>
    repeat' (first | refine w_stepZ progOk rfl rfl rfl rfl rfl ?_ | refine w_step progOk rfl rfl rfl ?_ | refine w_nil ?_ | refine w_seq ?_ | refine w_reg progOk rfl rfl ?_ | (refine w_condP rfl (ht := fun h => ?_) (hf := fun h => ?_) <;> try exact prn) | refine w_block ?_ | refine w_skip ?_ | refine w_shr progOk 8 rfl rfl rfl rfl (wrap64 (by decide) (by decide)) rfl ?_ | fail)
    refine w_next 2 (by omega) (by omega) [] (sub_eq rfl rfl (sub_eq rfl rfl (sub_eq rfl rfl (sub_eq rfl ?_ sub_nil)))) ?_
    · rw [wrap64 (by decide) (by decide)]; rfl
    · rw [show IntKind.i64.bits = 64 from rfl, f1, u8_mod (m := n / 256) (by omega)]; rfl
  | 2, _ =>
    repeat' (first | refine w_stepZ progOk rfl rfl rfl rfl rfl ?_ | refine w_step progOk rfl rfl rfl ?_ | refine w_nil ?_ | refine w_seq ?_ | refine w_reg progOk rfl rfl ?_ | (refine w_condP rfl (ht := fun h => ?_) (hf := fun h => ?_) <;> try exact prn) | refine w_block ?_ | refine w_skip ?_ | refine w_shr progOk 16 rfl rfl rfl rfl (wrap64 (by decide) (by decide)) rfl ?_ | fail)
    refine w_next 3 (by omega) (by omega) [] (sub_eq rfl rfl (sub_eq rfl rfl (sub_eq rfl rfl (sub_eq rfl ?_ sub_nil)))) ?_
    · rw [wrap64 (by decide) (by decide)]; rfl
    · rw [show IntKind.i64.bits = 64 from rfl, f2, u8_mod (m := 0) rfl]; rfl
  | 3, _ =>
    repeat' (first | refine w_stepZ progOk rfl rfl rfl rfl rfl ?_ | refine w_step progOk rfl rfl rfl ?_ | refine w_nil ?_ | refine w_seq ?_ | refine w_reg progOk rfl rfl ?_ | (refine w_condP rfl (ht := fun h => ?_) (hf := fun h => ?_) <;> try exact prn) | refine w_block ?_ | refine w_skip ?_ | refine w_shr progOk 24 rfl rfl rfl rfl (wrap64 (by decide) (by decide)) rfl ?_ | fail)
    refine w_next 4 (by omega) (by omega) [] (sub_eq rfl rfl (sub_eq rfl rfl (sub_eq rfl rfl (sub_eq rfl ?_ sub_nil)))) ?_
    · rw [wrap64 (by decide) (by decide)]; rfl
    · rw [show IntKind.i64.bits = 64 from rfl, f3, u8_mod (m := 0) rfl]; rfl
  | 4, _ =>
    repeat' (first | refine w_stepZ progOk rfl rfl rfl rfl rfl ?_ | refine w_step progOk rfl rfl rfl ?_ | refine w_nil ?_ | refine w_seq ?_ | refine w_reg progOk rfl rfl ?_ | (refine w_condP rfl (ht := fun h => ?_) (hf := fun h => ?_) <;> try exact prn) | refine w_exit ?_ | refine w_ret ?_ | fail)
    exact w_fin rfl (Sub.of_eq rfl)
end Go.Proofs.YtpdmaenhenfofaaGreatDoor

namespace Go.Proofs.YtpdmaenhenfofaaGreatDoor
open Go.Am
attribute [local irreducible] Decidable.decide
set_option maxRecDepth 100000
set_option maxHeartbeats 1000000
theorem isNil_ct (k : Int) : Ct Tryz.prog 62 [.t .nilIface, .t (.iface 26 (.int .i64 k))] [] (.t (.bool false)) [] := by
  refine ⟨⟨_, Tryz.func62, rfl⟩, fun vs w g hr hi => ?_⟩
  obtain ⟨hlen, hrel⟩ := hr
  match vs, hlen with
  | [v1, v2], _ =>
    have r1 := rel_t_inv (hrel 0 v1 _ rfl rfl)
    have r2 := rel_t_inv (hrel 1 v2 _ rfl rfl)
    cases r1
    cases r2 with
    | iface _ p2 _ r2 =>
      cases r2
      refine (is_nil k w).mono ?_
      rintro ev w' ⟨rfl, rfl⟩
      exact ⟨_, g, rfl, Ext.refl _ _, .t _ _ (.bool _), hi⟩
def IsOk (ft off : Nat) : Prop := ∀ (pb po : Nat) (n k : Int) (w : World), w.cell? ⟨pb, po + off, none⟩ = some (.int .i64 n) →
  Calls Tryz.prog 62 #[.iface ft (.pointer (some ⟨pb, po, none⟩)), .iface 26 (.int .i64 k)] w fun ev w' => ev = .returned (.bool (decide (n = k))) ∧ w' = w
theorem is_ct {ft off : Nat} (h : IsOk ft off) (cs : List T) (n k : Int) (hcs : cs[off]? = some (.int .i64 n)) :
    Ct Tryz.prog 62 [.t (.iface ft (.ptr cs)), .t (.iface 26 (.int .i64 k))] [] (.t (.bool (decide (n = k)))) [] := by
  refine ⟨⟨_, Tryz.func62, rfl⟩, fun vs w g hr hi => ?_⟩
  obtain ⟨hlen, hrel⟩ := hr
  match vs, hlen with
  | [v1, v2], _ =>
    have r1 := rel_t_inv (hrel 0 v1 _ rfl rfl)
    have r2 := rel_t_inv (hrel 1 v2 _ rfl rfl)
    cases r1 with
    | iface _ p1 _ r1 =>
      obtain ⟨pb, po, rfl, hc⟩ := ptr_inv r1
      cases r2 with
      | iface _ p2 _ r2 =>
        cases r2
        obtain ⟨_, _, x1, hx1, hx2⟩ := hc off _ hcs
        have hx3 : x1 = .int .i64 n := by cases hx2; rfl
        subst hx3
        refine (h pb po n k w hx1).mono ?_
        rintro ev w' ⟨rfl, rfl⟩
        exact ⟨_, g, rfl, Ext.refl _ _, .t _ _ (.bool _), hi⟩
theorem isEngine_ok : IsOk 97 1 := fun pb po n k w h => by
  by_cases e : n = k
  · subst e; simp only [decide_true]; exact isEngineT pb po n n w h rfl
  · simp only [e, decide_false]; exact isEngineF pb po n k w h e
theorem framed_ok (s : Bs) (hs : s.length ≤ 1024) : Ct Tryz.prog 61 [.t (.str s)] [] (.tuple [.t (.str (frameB s)), .t .nilIface]) [] := by
  refine ct0 progOk Tryz.func61 rfl false rfl rfl ?_
  repeat' (first | refine w_stepZ progOk rfl rfl rfl rfl rfl ?_ | refine w_step progOk rfl rfl rfl ?_ | refine w_nil ?_ | refine w_seq ?_ | refine w_reg progOk rfl rfl ?_ | (refine w_condP rfl (ht := fun h => ?_) (hf := fun h => ?_) <;> try exact prn) | refine w_skip ?_ | refine w_ret ?_ | refine w_call progOk rfl rfl rfl rfl rfl rfl rfl (fsize_ok _ hs) rfl rfl ?_ | refine w_call progOk rfl rfl rfl rfl rfl rfl rfl (fhead_ok _ hs) rfl rfl ?_ | refine w_sliceA progOk rfl rfl rfl rfl rfl rfl rfl (by simp) rfl ?_ | refine o_freezeBox 4 8 (cs := [.int .u8 ((UInt8.ofNat (s.length % 256)).toNat : Int), .int .u8 ((UInt8.ofNat (s.length / 256)).toNat : Int), .int .u8 0, .int .u8 0]) rfl rfl rfl rfl rfl ?_ | refine w_convS (s := [UInt8.ofNat (s.length % 256), UInt8.ofNat (s.length / 256), 0, 0]) progOk rfl rfl rfl rfl rfl rfl rfl rfl ?_ | refine w_addS progOk rfl rfl rfl rfl rfl (by simp; omega) ?_ | fail)
  exact w_fin rfl (Sub.of_eq rfl)
theorem fbytes_ok (s : Bs) (hs : s.length ≤ 1024) : Ct Tryz.prog 33 [.t (.str s)] [] (.tuple [.t (.str (frameB s)), .t (.int .i64 0)]) [] := by
  refine ct0 progOk Tryz.func33 rfl false rfl rfl ?_
  repeat' (first | refine w_step progOk rfl rfl rfl ?_ | refine w_nil ?_ | refine w_seq ?_ | refine w_reg progOk rfl rfl ?_ | (refine w_condP rfl (ht := fun h => ?_) (hf := fun h => ?_) <;> try exact prn) | refine w_skip ?_ | refine w_ret ?_ | refine w_call progOk rfl rfl rfl rfl rfl rfl rfl (framed_ok s hs) rfl rfl ?_ | refine w_call progOk rfl rfl rfl rfl rfl rfl rfl (isNil_ct 2) rfl rfl ?_ | fail)
  exact w_fin rfl (Sub.of_eq rfl)
theorem eput_ok (name : Bs) (l : List Entry) (hl : l.length ≤ 1000000) (hsm : ∀ x ∈ l, smallE x) : Ct Tryz.prog 11 [.t (.str name), .t (.slice .any 18 (l.map encEntry))] [] (.tuple [.t (.slice .any 4 ((putR name l).map encWr)), .t (.int .i64 (putE l))]) [] := by
  refine ct0 progOk Tryz.func11 rfl false rfl rfl ?_
  have cl := loads_ok l hl hsm
  by_cases hall : l.all mayE = true
  · simp only [if_pos hall] at cl
    have hlm : ((l.map entryB).map encStr).length = l.length := by simp
    repeat' (first | refine w_step progOk rfl rfl rfl ?_ | refine w_nil ?_ | refine w_seq ?_ | refine w_reg progOk rfl rfl ?_ | (refine w_gFP rfl rfl rfl rfl rfl (ht := fun h => ?_) (hf := fun h => ?_) <;> try exact prn) | (refine w_condP rfl (ht := fun h => ?_) (hf := fun h => ?_) <;> try exact prn) | refine w_block ?_ | refine w_skip ?_ | refine w_ret ?_ | refine w_call progOk rfl rfl rfl rfl rfl rfl rfl (cl) rfl rfl ?_ | fail)
    · have hn : l = [] := List.eq_nil_of_length_eq_zero (by omega)
      subst hn
      refine w_fin rfl ?_
      simp only [putR, putE]
      exact sub_tuple ⟨sub_slNil, Sub.refl _, trivial⟩
    have hne : l ≠ [] := fun e => by subst e; simp at h
    refine Tr.nilRow 8 43 4 rfl rfl ?_
    refine w_loop (ι := Nat) (fun i => i ≤ l.length) (fun i => [(0, .t (.str name)), (8, .row 86 4 0 (((l.take i).map (wrOf name)).map encWr).length), (25, .t (.slice .any 1 ((l.map entryB).map encStr))), (26, .t (.int .i64 l.length)), (27, .t (.int .i64 i))]) (fun i => [(86, .grow 4 (((l.take i).map (wrOf name)).map encWr))]) (fun i => l.length - i) 0 (by simp) ?_ ?_
    · exact at_of [] (sub_eq rfl rfl (sub_eq rfl rfl (sub_eq rfl rfl (sub_eq rfl (by rw [hlm]) (sub_eq rfl rfl sub_nil))))) rfl
    rintro i hi
    by_cases hlt : i < l.length
    · have hr : l[i]? = some l[i] := List.getElem?_eq_getElem hlt
      have hm := List.all_eq_true.1 hall l[i] (List.getElem_mem hlt)
      generalize l[i] = r at hr hm
      have hr2 : (l.map entryB)[i]? = some (entryB r) := by simp [hr]
      repeat' (first | refine w_stepZ progOk rfl rfl rfl rfl rfl ?_ | refine w_step progOk rfl rfl rfl ?_ | refine w_nil ?_ | refine w_seq ?_ | refine w_reg progOk rfl rfl ?_ | (refine w_condP rfl (ht := fun h => ?_) (hf := fun h => ?_) <;> try exact prn) | refine w_block ?_ | refine w_skip ?_ | refine w_index progOk rfl rfl rfl rfl rfl rfl rfl (map_get (by assumption)) rfl ?_ | refine w_appRow progOk rfl rfl rfl rfl rfl rfl rfl rfl rfl rfl rfl rfl rfl rfl (by simp [chunk]; omega) ?_ | refine w_call progOk rfl rfl rfl rfl rfl rfl rfl (fbytes_ok _ (entryB_len hm)) rfl rfl ?_ | fail)
      refine w_next (i + 1) hlt (by omega) [] (sub_eq rfl rfl (sub_eq rfl ?_ (sub_eq rfl rfl (sub_eq rfl rfl (sub_eq rfl ?_ sub_nil))))) ?_
      · rw [take_succ hr]; simp [chunk]
      · rw [wrap64 (by omega) (by omega)]; rfl
      · rw [take_succ hr]; simp [chunk, ti88, encWr, wrOf, dropS, killS]
    · repeat' (first | refine w_stepZ progOk rfl rfl rfl rfl rfl ?_ | refine w_step progOk rfl rfl rfl ?_ | refine w_nil ?_ | refine w_seq ?_ | refine w_reg progOk rfl rfl ?_ | (refine w_condP rfl (ht := fun h => ?_) (hf := fun h => ?_) <;> try exact prn) | refine w_exit ?_ | refine w_ret ?_ | refine w_appRow progOk rfl rfl rfl rfl rfl rfl rfl rfl rfl rfl rfl rfl rfl rfl (by simp [chunk]; omega) ?_ | fail)
      refine w_fin rfl (Sub.of_eq ?_)
      simp only [putR, putE, hne, hall, ne_eq, not_false_eq_true, and_self, if_true]
      rw [List.take_of_length_le (by omega)]
      simp [frzA, putW, chunk, ti88, encWr, wrOf]
      exact List.take_of_length_le (by simp)
  · simp only [if_neg hall] at cl
    repeat' (first | refine w_step progOk rfl rfl rfl ?_ | refine w_nil ?_ | refine w_seq ?_ | refine w_reg progOk rfl rfl ?_ | (refine w_gFP rfl rfl rfl rfl rfl (ht := fun h => ?_) (hf := fun h => ?_) <;> try exact prn) | (refine w_condP rfl (ht := fun h => ?_) (hf := fun h => ?_) <;> try exact prn) | refine w_ret ?_ | refine w_call progOk rfl rfl rfl rfl rfl rfl rfl (cl) rfl rfl ?_ | fail)
    refine w_fin rfl ?_
    simp only [putR, putE, hall, Bool.false_eq_true, and_false, if_false]
    exact sub_tuple ⟨sub_slNil, Sub.refl _, trivial⟩
end Go.Proofs.YtpdmaenhenfofaaGreatDoor

namespace Go.Proofs.YtpdmaenhenfofaaGreatDoor
open Go.Am
attribute [local irreducible] Decidable.decide
set_option maxRecDepth 100000
set_option maxHeartbeats 1000000
def behindB (b : Batch) : Int := b.seq + b.recs.length
def copyChain (pid epoch : Int) : Int → List Batch → Bool
  | _, [] => true
  | next, b :: r => mayBatch b && b.txn && decide (b.pid = pid) && decide (b.epoch = epoch) && decide (b.seq = next) && copyChain pid epoch (behindB b) r
def firstSeq : List Batch → Int
  | [] => 0
  | b :: _ => b.seq
def lastB : List Batch → Int
  | [] => 0
  | [b] => behindB b
  | _ :: r => lastB r
def copyOk (o : Opn) : Bool := decide (1 ≤ o.batches.length ∧ o.batches.length ≤ 8) && copyChain o.pid o.epoch (firstSeq o.batches) o.batches
def copyAt (o : Opn) (i : Nat) (b : Batch) : Entry := if i + 1 = o.batches.length then ⟨3, b, true, lastB o.batches, 0, row0, prod0⟩ else ⟨3, b, false, 0, 0, row0, prod0⟩
def copiesOf (o : Opn) : List Entry := o.batches.mapIdx (copyAt o)
theorem may_bounds {b : Batch} (h : mayBatch b = true) : 0 ≤ b.seq ∧ b.seq + b.recs.length ≤ 1048576 ∧ 1 ≤ b.recs.length ∧ b.recs.length ≤ 4 := by
  simp only [mayBatch, Bool.and_eq_true, decide_eq_true_eq] at h
  have h := h.1
  unfold boundsB at h; omega
theorem rbehind_ok (b : Batch) (hb : mayBatch b = true) : Ct Tryz.prog 98 [.agg (liftT (encBatch b))] [] (.t (.int .i64 (behindB b))) [] := by
  have h := may_bounds hb
  refine ct0 progOk Tryz.func98 rfl false rfl rfl ?_
  repeat' (first | refine w_step progOk rfl rfl rfl ?_ | refine w_nil ?_ | refine w_seq ?_ | refine w_reg progOk rfl rfl ?_ | refine w_ret ?_ | fail)
  refine w_fin rfl (Sub.of_eq ?_)
  rw [List.length_map, wrap64 (by omega) (by omega)]; rfl
theorem cloneRec_ok (l : List Rec) (h0 : l ≠ []) (hl : l.length ≤ 1000000) : Ct Tryz.prog 128 [.t (.slice .any 2 (l.map encRec))] [] (.t (.slice .any 2 (l.map encRec))) [] := by
  refine ct0 progOk Tryz.func128 rfl false rfl rfl ?_
  cases l with
  | nil => exact absurd rfl h0
  | cons a r =>
    repeat' (first | refine w_stepZ progOk rfl rfl rfl rfl rfl ?_ | refine w_step progOk rfl rfl rfl ?_ | refine w_nil ?_ | refine w_seq ?_ | refine w_reg progOk rfl rfl ?_ | (refine w_condP rfl (ht := fun h => ?_) (hf := fun h => ?_) <;> try exact prn) | refine w_skip ?_ | refine w_ret ?_ | refine w_appE progOk rfl rfl rfl rfl rfl rfl rfl rfl rfl rfl rfl rfl rfl (by simp at hl ⊢; omega) ?_ | fail)
    refine w_fin rfl (Sub.of_eq ?_)
    simp [frzA]
    exact List.take_of_length_le (by simp)
theorem lastB_get : ∀ {l : List Batch} {b : Batch}, l[l.length - 1]? = some b → lastB l = behindB b
  | [], b, h => by simp at h
  | [a], b, h => by simp at h; subst h; rfl
  | a :: c :: r, b, h => by
    have : (c :: r)[(c :: r).length - 1]? = some b := by simpa using h
    simp only [lastB]; exact lastB_get this
theorem cbehind_ok (o : Opn) (h1 : 1 ≤ o.batches.length) (h2 : o.batches.length ≤ 8) (hm : ∀ b ∈ o.batches, mayBatch b = true) : Ct Tryz.prog 160 [.agg (liftT (encOpn o))] [] (.t (.int .i64 (lastB o.batches))) [] := by
  have hlm : (o.batches.map encBatch).length = o.batches.length := List.length_map ..
  have hr : o.batches[o.batches.length - 1]? = some (o.batches[o.batches.length - 1]'(by omega)) := List.getElem?_eq_getElem _
  have hb := hm _ (List.mem_of_getElem? hr)
  generalize o.batches[o.batches.length - 1]'(by omega) = b at hr hb
  rw [lastB_get hr]
  refine ct0 progOk Tryz.func160 rfl false rfl rfl ?_
  have hw : IntKind.i64.wrap (((o.batches.map encBatch).length : Int) - 1) = ((o.batches.length - 1 : Nat) : Int) := by rw [hlm, wrap64 (by omega) (by omega)]; omega
  repeat' (first | refine w_step progOk rfl rfl rfl ?_ | refine w_nil ?_ | refine w_seq ?_ | refine w_reg progOk rfl rfl ?_ | refine w_ret ?_ | refine w_indexE progOk rfl rfl rfl rfl rfl rfl rfl (by assumption) (map_get (by assumption)) rfl ?_ | refine w_call progOk rfl rfl rfl rfl rfl rfl rfl (rbehind_ok b hb) rfl rfl ?_ | fail)
  exact w_fin rfl (Sub.of_eq rfl)
theorem copy1_ok (o : Opn) (i : Nat) (b : Batch) (h1 : 1 ≤ o.batches.length) (h2 : o.batches.length ≤ 8) (hm : ∀ b ∈ o.batches, mayBatch b = true) (hb : mayBatch b = true) (hi : i < o.batches.length) :
    Ct Tryz.prog 159 [.t (.int .i64 i), .agg (liftT (encBatch b)), .t (.ptr (encOpn o))] [] (.agg (liftT (encEntry (copyAt o i b)))) [] := by
  have hlm : (o.batches.map encBatch).length = o.batches.length := List.length_map ..
  have hbb := may_bounds hb
  have hne : b.recs ≠ [] := fun e => by rw [e] at hbb; simp at hbb
  have hw : IntKind.i64.wrap (((o.batches.map encBatch).length : Int) - 1) = ((o.batches.length - 1 : Nat) : Int) := by rw [hlm, wrap64 (by omega) (by omega)]; omega
  refine ct0 progOk Tryz.func159 rfl false rfl rfl ?_
  repeat' (first | refine w_stepZ progOk rfl rfl rfl rfl rfl ?_ | refine w_step progOk rfl rfl rfl ?_ | refine w_nil ?_ | refine w_seq ?_ | refine w_reg progOk rfl rfl ?_ | (refine w_condP rfl (ht := fun h => ?_) (hf := fun h => ?_) <;> try exact prn) | refine w_skip ?_ | refine w_ret ?_ | refine w_call progOk rfl rfl rfl rfl rfl rfl rfl (cloneRec_ok b.recs hne (by omega)) rfl rfl ?_ | refine w_call progOk rfl rfl rfl rfl rfl rfl rfl (cbehind_ok o h1 h2 hm) rfl rfl ?_ | fail)
  · have e : i + 1 = o.batches.length := by rw [hw] at h; omega
    refine w_fin rfl ?_
    simp only [copyAt, e, if_true]
    repeat' (first | exact Sub.refl _ | exact sub_slNil | exact sub_slice | exact trivial | refine sub_agg ?_ | refine sub_tuple ?_ | refine And.intro ?_ ?_)
  · have e : ¬ i + 1 = o.batches.length := by rw [hw] at h; omega
    refine w_fin rfl ?_
    simp only [copyAt, e, if_false]
    repeat' (first | exact Sub.refl _ | exact sub_slNil | exact sub_slice | exact trivial | refine sub_agg ?_ | refine sub_tuple ?_ | refine And.intro ?_ ?_)
theorem made_ok (o : Opn) (h1 : 1 ≤ o.batches.length) (h2 : o.batches.length ≤ 8) (hm : ∀ b ∈ o.batches, mayBatch b = true) :
    Ct Tryz.prog 158 [.t (.slice .any 5 (o.batches.map encBatch)), .t (.func (.func 159) [] [.ptr (encOpn o)])] [] (.t (.slice .any 18 ((copiesOf o).map encEntry))) [] := by
  have hlm : (o.batches.map encBatch).length = o.batches.length := List.length_map ..
  refine ct0 progOk Tryz.func158 rfl false rfl rfl ?_
  have hcn : (((o.batches.map encBatch).length : Nat) : Int) = ((o.batches.length : Nat) : Int) := by rw [hlm]
  repeat' (first | refine w_step progOk rfl rfl rfl ?_ | refine w_nil ?_ | refine w_seq ?_ | refine w_reg progOk rfl rfl ?_ | refine w_block ?_ | refine w_make progOk rfl rfl rfl rfl rfl rfl rfl (l := 0) rfl hcn rfl rfl (by omega) (by omega) ?_ | fail)
  refine w_loop (ι := Nat) (fun i => i ≤ o.batches.length) (fun i => [(1, .t (.func (.func 159) [] [.ptr (encOpn o)])), (5, .row 20 18 0 (((o.batches.take i).mapIdx (copyAt o)).map encEntry).length), (11, .t (.slice .any 5 (o.batches.map encBatch))), (12, .t (.int .i64 o.batches.length)), (13, .t (.int .i64 i))]) (fun i => [(20, .grow 18 (((o.batches.take i).mapIdx (copyAt o)).map encEntry))]) (fun i => o.batches.length - i) 0 (by simp) ?_ ?_
  · exact at_of [] (sub_eq rfl rfl (sub_eq rfl rfl (sub_eq rfl rfl (sub_eq rfl (by rw [hlm]) (sub_eq rfl rfl sub_nil))))) rfl
  rintro i hi
  by_cases hlt : i < o.batches.length
  · have hr : o.batches[i]? = some o.batches[i] := List.getElem?_eq_getElem hlt
    have hb := hm o.batches[i] (List.getElem_mem hlt)
    generalize o.batches[i] = r at hr hb
    have ht : (o.batches.take (i + 1)).mapIdx (copyAt o) = (o.batches.take i).mapIdx (copyAt o) ++ [copyAt o i r] := by
      rw [take_succ hr, List.mapIdx_append]; simp; congr 1; omega
    repeat' (first | refine w_stepZ progOk rfl rfl rfl rfl rfl ?_ | refine w_step progOk rfl rfl rfl ?_ | refine w_nil ?_ | refine w_seq ?_ | refine w_reg progOk rfl rfl ?_ | (refine w_condP rfl (ht := fun h => ?_) (hf := fun h => ?_) <;> try exact prn) | refine w_block ?_ | refine w_skip ?_ | refine w_index progOk rfl rfl rfl rfl rfl rfl rfl (map_get (by assumption)) rfl ?_ | refine w_appRow progOk rfl rfl rfl rfl rfl rfl rfl rfl rfl rfl rfl rfl rfl rfl (by simp [chunk]; omega) ?_ | refine w_call progOk rfl rfl rfl rfl rfl rfl rfl (copy1_ok o i r h1 h2 hm hb hlt) rfl rfl ?_ | fail)
    refine w_next (i + 1) hlt (by omega) [7] (sub_eq rfl rfl (sub_eq rfl ?_ (sub_eq rfl rfl (sub_eq rfl rfl (sub_eq rfl ?_ sub_nil))))) ?_
    · rw [ht]; simp [chunk]; rfl
    · rw [wrap64 (by omega) (by omega)]; rfl
    · rw [ht]; simp only [List.map_append, List.map_cons, List.map_nil]; rfl
  · repeat' (first | refine w_step progOk rfl rfl rfl ?_ | refine w_nil ?_ | refine w_seq ?_ | refine w_reg progOk rfl rfl ?_ | (refine w_condP rfl (ht := fun h => ?_) (hf := fun h => ?_) <;> try exact prn) | refine w_exit ?_ | refine w_ret ?_ | fail)
    refine w_fin rfl ?_
    rw [List.take_of_length_le (by omega)]
    refine Sub.of_eq ?_
    simp [frzA, copiesOf]
    exact List.take_of_length_le (by simp)
theorem firstSeq_get : ∀ {l : List Batch} {b : Batch}, l[0]? = some b → firstSeq l = b.seq
  | [], b, h => by simp at h
  | a :: r, b, h => by simp at h; subst h; rfl
theorem ccheck_ok (o : Opn) (h : copyOk o = true) : Ct Tryz.prog 156 [.agg (liftT (encOpn o))] [] (.t .nilIface) [] := by
  have hlm : (o.batches.map encBatch).length = o.batches.length := List.length_map ..
  simp only [copyOk, Bool.and_eq_true, decide_eq_true_eq] at h
  obtain ⟨⟨h1, h2⟩, hch⟩ := h
  have hr0 : o.batches[0]? = some (o.batches[0]'(by omega)) := List.getElem?_eq_getElem _
  have hf := firstSeq_get hr0
  rw [hf] at hch
  generalize o.batches[0]'(by omega) = b0' at hr0 hch
  refine ct0 progOk Tryz.func156 rfl false rfl rfl ?_
  repeat' (first | refine w_step progOk rfl rfl rfl ?_ | refine w_nil ?_ | refine w_seq ?_ | refine w_reg progOk rfl rfl ?_ | (refine w_gFP rfl rfl rfl rfl rfl (ht := fun h => ?_) (hf := fun h => ?_) <;> try exact prn) | (refine w_condP rfl (ht := fun h => ?_) (hf := fun h => ?_) <;> try exact prn) | refine w_block ?_ | refine w_skip ?_ | refine w_index progOk rfl rfl rfl rfl rfl rfl rfl (map_get (by assumption)) rfl ?_ | fail)
  refine w_loop (ι := Nat × Int) (fun p => p.1 ≤ o.batches.length ∧ copyChain o.pid o.epoch p.2 (o.batches.drop p.1) = true) (fun p => [(1, .ref 2 0), (3, .t (.int .i64 p.2)), (25, .t (.slice .any 5 (o.batches.map encBatch))), (26, .t (.int .i64 o.batches.length)), (27, .t (.int .i64 p.1))]) (fun _ => [(2, .cells (liftT (encOpn o)))]) (fun p => o.batches.length - p.1) (0, b0'.seq) ⟨by simp, hch⟩ ?_ ?_
  · exact at_of [] (sub_eq rfl rfl (sub_eq rfl rfl (sub_eq rfl rfl (sub_eq rfl (by rw [hlm]) (sub_eq rfl rfl sub_nil))))) rfl
  rintro ⟨i, next⟩ ⟨hi, hc⟩
  simp only at hi hc
  by_cases hlt : i < o.batches.length
  · have hr : o.batches[i]? = some o.batches[i] := List.getElem?_eq_getElem hlt
    generalize o.batches[i] = r at hr
    rw [drop_cons hr] at hc
    simp only [copyChain, Bool.and_eq_true, decide_eq_true_eq] at hc
    obtain ⟨⟨⟨⟨⟨c1, c2⟩, c3⟩, c4⟩, c5⟩, c6⟩ := hc
    have hbb := may_bounds c1
    have cm : Ct Tryz.prog 37 [.agg (liftT (encBatch r))] [] (.t (.bool true)) [] := c1 ▸ rmay_ok r (by omega)
    repeat' (first | refine w_stepZ progOk rfl rfl rfl rfl rfl ?_ | refine w_step progOk rfl rfl rfl ?_ | refine w_nil ?_ | refine w_seq ?_ | refine w_reg progOk rfl rfl ?_ | (refine w_gFP rfl rfl rfl rfl rfl (ht := fun h => ?_) (hf := fun h => ?_) <;> try exact prn) | (refine w_condP rfl (ht := fun h => ?_) (hf := fun h => ?_) <;> try exact prn) | refine w_block ?_ | refine w_skip ?_ | refine w_exit ?_ | refine w_index progOk rfl rfl rfl rfl rfl rfl rfl (map_get (by assumption)) rfl ?_ | refine w_call progOk rfl rfl rfl rfl rfl rfl rfl (cm) rfl rfl ?_ | refine w_call progOk rfl rfl rfl rfl rfl rfl rfl (rbehind_ok r c1) rfl rfl ?_ | fail)
    all_goals try (exfalso; simp_all; done)
    refine w_next (i + 1, behindB r) ⟨hlt, c6⟩ (by simp; omega) [5] (sub_eq rfl rfl (sub_eq rfl rfl (sub_eq rfl rfl (sub_eq rfl rfl (sub_eq rfl ?_ sub_nil))))) rfl
    rw [wrap64 (by omega) (by omega)]; rfl
  · repeat' (first | refine w_step progOk rfl rfl rfl ?_ | refine w_nil ?_ | refine w_seq ?_ | refine w_reg progOk rfl rfl ?_ | (refine w_condP rfl (ht := fun h => ?_) (hf := fun h => ?_) <;> try exact prn) | refine w_exit ?_ | refine w_ret ?_ | fail)
    exact w_fin rfl (Sub.of_eq rfl)
theorem chain_may {pid epoch : Int} : ∀ {l : List Batch} {next : Int}, copyChain pid epoch next l = true → ∀ b ∈ l, mayBatch b = true
  | [], _, _, b, hb => by simp at hb
  | a :: r, next, h, b, hb => by
    simp only [copyChain, Bool.and_eq_true] at h
    simp only [List.mem_cons] at hb
    rcases hb with rfl | hb
    · exact h.1.1.1.1.1
    · exact chain_may h.2 b hb
theorem copies_ok (o : Opn) (h : copyOk o = true) : Ct Tryz.prog 96 [.agg (liftT (encOpn o))] [] (.tuple [.t (.slice .any 18 ((copiesOf o).map encEntry)), .t (.int .i64 0)]) [] := by
  have h' := h
  simp only [copyOk, Bool.and_eq_true, decide_eq_true_eq] at h'
  obtain ⟨⟨h1, h2⟩, hch⟩ := h'
  refine ct0 progOk Tryz.func96 rfl false rfl rfl ?_
  refine w_seq ?_
  refine w_reg progOk rfl rfl ?_
  repeat' (first | refine w_step progOk rfl rfl rfl ?_ | refine w_nil ?_ | fail)
  refine Tr.freezeBox (cs := encOpn o) 1 2 rfl rfl rfl rfl ?_
  repeat' (first | refine w_step progOk rfl rfl rfl ?_ | refine w_nil ?_ | refine w_seq ?_ | refine w_reg progOk rfl rfl ?_ | (refine w_condP rfl (ht := fun h => ?_) (hf := fun h => ?_) <;> try exact prn) | refine w_skip ?_ | refine w_ret ?_ | refine w_call progOk rfl rfl rfl rfl rfl rfl rfl (ccheck_ok o h) rfl rfl ?_ | refine w_call progOk rfl rfl rfl rfl rfl rfl rfl (made_ok o h1 h2 (chain_may hch)) rfl rfl ?_ | fail)
  exact w_fin rfl (Sub.of_eq rfl)
end Go.Proofs.YtpdmaenhenfofaaGreatDoor

namespace Go.Proofs.YtpdmaenhenfofaaGreatDoor
open Go.Am
attribute [local irreducible] Decidable.decide
set_option maxRecDepth 100000
set_option maxHeartbeats 1000000
theorem eput_row (name : Bs) (l : List Entry) (hl : l.length ≤ 1000000) (hsm : ∀ x ∈ l, smallE x) (hne : l ≠ []) (hall : l.all mayE = true) : Ct Tryz.prog 11 [.t (.str name), .t (.slice .any 18 (l.map encEntry))] [] (.tuple [.row 86 4 0 ((putW name l).map encWr).length, .t (.int .i64 0)]) [(86, .grow 4 ((putW name l).map encWr))] := by
  refine ct1 progOk Tryz.func11 rfl rfl ?_
  have cl := loads_ok l hl hsm
  · simp only [if_pos hall] at cl
    have hlm : ((l.map entryB).map encStr).length = l.length := by simp
    repeat' (first | refine w_step progOk rfl rfl rfl ?_ | refine w_nil ?_ | refine w_seq ?_ | refine w_reg progOk rfl rfl ?_ | (refine w_gFP rfl rfl rfl rfl rfl (ht := fun h => ?_) (hf := fun h => ?_) <;> try exact prn) | (refine w_condP rfl (ht := fun h => ?_) (hf := fun h => ?_) <;> try exact prn) | refine w_block ?_ | refine w_skip ?_ | refine w_ret ?_ | refine w_call progOk rfl rfl rfl rfl rfl rfl rfl (cl) rfl rfl ?_ | fail)
    · exact absurd (List.eq_nil_of_length_eq_zero (by omega)) hne
    refine Tr.nilRow 8 43 4 rfl rfl ?_
    refine w_loop (ι := Nat) (fun i => i ≤ l.length) (fun i => [(0, .t (.str name)), (8, .row 86 4 0 (((l.take i).map (wrOf name)).map encWr).length), (25, .t (.slice .any 1 ((l.map entryB).map encStr))), (26, .t (.int .i64 l.length)), (27, .t (.int .i64 i))]) (fun i => [(86, .grow 4 (((l.take i).map (wrOf name)).map encWr))]) (fun i => l.length - i) 0 (by simp) ?_ ?_
    · exact at_of [] (sub_eq rfl rfl (sub_eq rfl rfl (sub_eq rfl rfl (sub_eq rfl (by rw [hlm]) (sub_eq rfl rfl sub_nil))))) rfl
    rintro i hi
    by_cases hlt : i < l.length
    · have hr : l[i]? = some l[i] := List.getElem?_eq_getElem hlt
      have hm := List.all_eq_true.1 hall l[i] (List.getElem_mem hlt)
      generalize l[i] = r at hr hm
      have hr2 : (l.map entryB)[i]? = some (entryB r) := by simp [hr]
      repeat' (first | refine w_stepZ progOk rfl rfl rfl rfl rfl ?_ | refine w_step progOk rfl rfl rfl ?_ | refine w_nil ?_ | refine w_seq ?_ | refine w_reg progOk rfl rfl ?_ | (refine w_condP rfl (ht := fun h => ?_) (hf := fun h => ?_) <;> try exact prn) | refine w_block ?_ | refine w_skip ?_ | refine w_index progOk rfl rfl rfl rfl rfl rfl rfl (map_get (by assumption)) rfl ?_ | refine w_appRow progOk rfl rfl rfl rfl rfl rfl rfl rfl rfl rfl rfl rfl rfl rfl (by simp [chunk]; omega) ?_ | refine w_call progOk rfl rfl rfl rfl rfl rfl rfl (fbytes_ok _ (entryB_len hm)) rfl rfl ?_ | fail)
      refine w_next (i + 1) hlt (by omega) [] (sub_eq rfl rfl (sub_eq rfl ?_ (sub_eq rfl rfl (sub_eq rfl rfl (sub_eq rfl ?_ sub_nil))))) ?_
      · rw [take_succ hr]; simp [chunk]
      · rw [wrap64 (by omega) (by omega)]; rfl
      · rw [take_succ hr]; simp [chunk, ti88, encWr, wrOf, dropS, killS]
    · repeat' (first | refine w_stepZ progOk rfl rfl rfl rfl rfl ?_ | refine w_step progOk rfl rfl rfl ?_ | refine w_nil ?_ | refine w_seq ?_ | refine w_reg progOk rfl rfl ?_ | (refine w_condP rfl (ht := fun h => ?_) (hf := fun h => ?_) <;> try exact prn) | refine w_exit ?_ | refine w_ret ?_ | refine w_appRow progOk rfl rfl rfl rfl rfl rfl rfl rfl rfl rfl rfl rfl rfl rfl (by simp [chunk]; omega) ?_ | fail)
      rw [List.take_of_length_le (by omega)]
      have eW : ((l.map (wrOf name)).map encWr) ++ chunk 4 1 [T.int .i8 1, .str name, .str [], .int .i64 0] = (putW name l).map encWr := by simp [putW, chunk, encWr]
      refine w_fin1 [] rfl rfl ?_ (Sub.of_eq ?_)
      · rw [← eW]; rfl
      · rw [← eW]; rfl
end Go.Proofs.YtpdmaenhenfofaaGreatDoor
