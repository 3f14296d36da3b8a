/- Contracts and laws, joined: Tg, Th, Ti, Tj. No condition beside those that each theorem names. -/
import Derived.Test.YtpdmaenhenfofaaGreatDoorZM10
import Derived.Test.YtpdmaenhenfofaaGreatDoorZJ14
import Derived.Test.YtpdmaenhenfofaaGreatDoorZM11
set_option linter.unusedVariables false
set_option linter.unusedSimpArgs false
namespace Go.Proofs.YtpdmaenhenfofaaGreatDoor
open Go.Am
attribute [local irreducible] Decidable.decide
set_option maxRecDepth 100000
set_option maxHeartbeats 1000000
theorem endN_ok (e q : Int) (p : Part) (pid : Int) (yes : Bool) (hs : smallPart p) (hgood : badOf e q p = false) (hany : p.opens.any (fun o => decide (o.pid = pid)) = false) :
    Ct Tryz.prog 31 [.t (.int .i8 e), .t (.int .i64 q), .agg (liftT (encPart p)), .t (.int .i64 pid), .t (.bool yes)] [] (endR p []) [] := by
  have hs' := hs
  obtain ⟨s1, s2, s3, s4⟩ := hs'
  have cof := ofW_ok e q p hgood hs
  have cown := own6_ok p hs
  have cf := enfind_ok p.opens pid s2
  rw [hany] at cf
  refine ct0 progOk Tryz.func31 rfl false rfl rfl ?_
  repeat' (first | refine w_stepZ progOk rfl rfl rfl rfl rfl ?_ | refine w_step progOk rfl rfl rfl ?_ | refine w_nil ?_ | refine w_seq ?_ | refine w_reg progOk rfl rfl ?_ | (refine w_condP rfl (ht := fun h => ?_) (hf := fun h => ?_) <;> try exact prn) | refine w_skip ?_ | refine w_ret ?_ | refine w_call progOk rfl rfl rfl rfl rfl rfl rfl (cof) rfl rfl ?_ | refine w_callR progOk [] [(28, 66), (80, 68)] rfl rfl rfl rfl rfl cown rfl rfl rfl rfl rfl ?_ | refine w_callLend progOk rfl rfl rfl (lend_rowb rfl rfl) cf rfl rfl ?_ | fail)
  refine w_fin rfl (sub_tuple ⟨Sub.of_eq (Eq.trans (b := frzA 66 5 (p.rows.map encRow) (frzA 68 3 (p.opens.map encOpn) (.agg [.t (.int .i64 p.start), .t (.int .i64 p.fin), .row 66 5 0 (p.rows.map encRow).length, .row 68 3 0 (p.opens.map encOpn).length, .t (.slice .any 4 (p.prods.map encProd))]))) rfl ?_), sub_slNil, Sub.refl _, trivial⟩)
  have b1 : Nat.beq 68 66 = false := rfl
  have b2 : Nat.beq 66 68 = false := rfl
  have t1 : (p.rows.map encRow).take p.rows.length = p.rows.map encRow := List.take_of_length_le (by simp)
  have t2 : (p.opens.map encOpn).take p.opens.length = p.opens.map encOpn := List.take_of_length_le (by simp)
  simp [endR, encPart, liftT, frzA, frzL, b1, b2, t1, t2]
structure EO where
  part : Part
  w : List Wr
  e : Int
def EO.av (r : EO) : AV := .tuple [.agg (liftT (encPart r.part)), .t (.slice .any 4 (r.w.map encWr)), .t (.int .i64 r.e)]
def End (e q : Int) (p : Part) (pid : Int) (yes : Bool) : EO :=
  if badOf e q p = true then ⟨partZ, [], 2⟩
  else match p.opens.find? (fun o => decide (o.pid = pid)) with
    | none => ⟨p, [], 0⟩
    | some o => ⟨endP e p (idxOf (fun o => decide (o.pid = pid)) p.opens).toNat o yes, endW e q o yes, 0⟩
theorem End_ok (e q : Int) (p : Part) (pid : Int) (yes : Bool) (hs : smallPart p) :
    Ct Tryz.prog 31 [.t (.int .i8 e), .t (.int .i64 q), .agg (liftT (encPart p)), .t (.int .i64 pid), .t (.bool yes)] [] (End e q p pid yes).av [] := by
  cases hbad : badOf e q p with
  | true =>
    have cof := of_ok e q p hs
    obtain ⟨h1, s, h2⟩ := of_bad hbad
    have hr : End e q p pid yes = ⟨partZ, [], 2⟩ := by simp [End, hbad]
    rw [hr]
    rw [h1, h2] at cof
    refine ct0 progOk Tryz.func31 rfl false rfl rfl ?_
    repeat' (first | refine w_stepZ progOk rfl rfl rfl rfl rfl ?_ | refine w_step progOk rfl rfl rfl ?_ | refine w_nil ?_ | refine w_seq ?_ | refine w_reg progOk rfl rfl ?_ | (refine w_condP rfl (ht := fun h => ?_) (hf := fun h => ?_) <;> try exact prn) | refine w_ret ?_ | refine w_call progOk rfl rfl rfl rfl rfl rfl rfl (cof) rfl rfl ?_ | refine w_call progOk rfl rfl rfl rfl rfl rfl rfl (encode_ok s 2) rfl rfl ?_ | fail)
    exact w_fin rfl (sub_tuple ⟨partZ_sub, sub_slNil, Sub.refl _, trivial⟩)
  | false =>
    cases hf : p.opens.find? (fun o => decide (o.pid = pid)) with
    | none =>
      have hr : End e q p pid yes = ⟨p, [], 0⟩ := by simp [End, hbad, hf]
      rw [hr]
      have hno : p.opens.any (fun o => decide (o.pid = pid)) = false := by
        rw [List.any_eq_false]; intro o ho; simpa using List.find?_eq_none.1 hf o ho
      exact endN_ok e q p pid yes hs hbad hno
    | some o =>
      obtain ⟨k, hk, hidx, hany⟩ := find_idx hf
      have hpid : o.pid = pid := by simpa using List.find?_some hf
      have hr : End e q p pid yes = ⟨endP e p k o yes, endW e q o yes, 0⟩ := by simp [End, hbad, hf, hidx]
      rw [hr]
      exact endT_ok e q p pid yes hs hbad k o hk hidx hany hpid
end Go.Proofs.YtpdmaenhenfofaaGreatDoor

namespace Go.Proofs.YtpdmaenhenfofaaGreatDoor
open Go.Am
attribute [local irreducible] Decidable.decide
set_option maxRecDepth 100000
set_option maxHeartbeats 1000000
theorem search_ok (fnum : Nat) (cap : List T) (n k : Nat) (hn : n ≤ 1000000000) (hk : k ≤ n) (hf : ∀ i : Nat, i < n → Ct Tryz.prog fnum (.t (.int .i64 i) :: liftT cap) [] (.t (.bool (decide (k ≤ i)))) []) (hfr : freeL (liftT cap) = true) :
    Ct Tryz.prog 181 [.t (.int .i64 n), .t (.func (.func fnum) [] cap)] [] (.t (.int .i64 k)) [] := by
  refine ct0 progOk Tryz.func181 rfl false rfl rfl ?_
  repeat' (first | refine w_step progOk rfl rfl rfl ?_ | refine w_nil ?_ | refine w_seq ?_ | refine w_reg progOk rfl rfl ?_ | refine w_block ?_ | fail)
  refine w_loop (ι := Nat × Nat) (fun x => x.1 ≤ k ∧ k ≤ x.2 ∧ x.2 ≤ n) (fun x => [(1, .t (.func (.func fnum) [] cap)), (5, .t (.int .i64 x.1)), (6, .t (.int .i64 x.2))]) (fun _ => []) (fun x => x.2 - x.1) (0, n) ⟨by omega, hk, by omega⟩ ?_ ?_
  · exact at_of [] (sub_eq rfl rfl (sub_eq rfl rfl (sub_eq rfl rfl sub_nil))) rfl
  rintro ⟨i, j⟩ ⟨h1, h2, h3⟩
  simp only at h1 h2 h3
  by_cases hlt : i < j
  · have hw : IntKind.i64.wrap ((i : Int) + j) = ((i + j : Nat) : Int) := by rw [wrap64 (by omega) (by omega)]; rfl
    have hc := hf ((i + j) / 2) (by omega)
    have hX : IntKind.i64.wrap ((IntKind.u64.wrap (IntKind.i64.wrap ((i : Int) + j))).fdiv (2 ^ min (Int.toNat 1) IntKind.u64.bits)) = (((i + j) / 2 : Nat) : Int) := by
      rw [hw]
      have hu : IntKind.u64.wrap ((i + j : Nat) : Int) = ((i + j : Nat) : Int) := by
        show ((i + j : Nat) : Int) % (2 ^ 64) = _
        omega
      have hm : (2 : Int) ^ min (Int.toNat 1) IntKind.u64.bits = 2 := rfl
      rw [hu, hm, Int.fdiv_eq_ediv_of_nonneg _ (by omega), wrap64 (by omega) (by omega)]
      omega
    rw [← hX] at hc
    have hX2 : IntKind.i64.wrap ((((i + j) / 2 : Nat) : Int) + 1) = (((i + j) / 2 + 1 : Nat) : Int) := by rw [wrap64 (by omega) (by omega)]; rfl
    repeat' (first | refine w_step progOk rfl rfl rfl ?_ | refine w_nil ?_ | refine w_seq ?_ | refine w_reg progOk rfl rfl ?_ | (refine w_condP rfl (ht := fun h => ?_) (hf := fun h => ?_) <;> try exact prn) | refine w_block ?_ | refine w_skip ?_ | refine w_call progOk rfl rfl rfl rfl rfl rfl hfr hc rfl rfl ?_ | fail)
    · refine w_next ((i + j) / 2 + 1, j) ⟨by simp at *; omega, h2, h3⟩ (by simp; omega) [] (sub_eq rfl rfl (sub_eq rfl (by rw [hX, hX2]) (sub_eq rfl rfl sub_nil))) rfl
    · refine w_next (i, (i + j) / 2) ⟨h1, by simp at *; omega, by simp; omega⟩ (by simp; omega) [] (sub_eq rfl rfl (sub_eq rfl rfl (sub_eq rfl (by rw [hX]) sub_nil))) rfl
  · repeat' (first | refine w_step progOk rfl rfl rfl ?_ | refine w_nil ?_ | refine w_seq ?_ | refine w_reg progOk rfl rfl ?_ | (refine w_condP rfl (ht := fun h => ?_) (hf := fun h => ?_) <;> try exact prn) | refine w_exit ?_ | refine w_ret ?_ | fail)
    have he : i = k := by omega
    exact w_fin rfl (Sub.of_eq (by rw [he]))
end Go.Proofs.YtpdmaenhenfofaaGreatDoor

namespace Go.Proofs.YtpdmaenhenfofaaGreatDoor
open Go.Am
attribute [local irreducible] Decidable.decide
set_option maxRecDepth 100000
set_option maxHeartbeats 1000000
theorem cut_split (n : Int) : ∀ {l : List Row}, Srt Row.offset l → ∃ k, k ≤ l.length ∧ (∀ i r, l[i]? = some r → (k ≤ i ↔ n ≤ r.offset)) ∧ l.drop k = l.filter (fun r => decide (n ≤ r.offset))
  | [], _ => ⟨0, Nat.le_refl _, fun i r h => by simp at h, rfl⟩
  | a :: t, h => by
    obtain ⟨h1, h2⟩ := List.pairwise_cons.1 h
    by_cases hn : n ≤ a.offset
    · refine ⟨0, Nat.zero_le _, fun i r hr => ?_, ?_⟩
      · have : r ∈ a :: t := List.mem_of_getElem? hr
        rcases List.mem_cons.1 this with rfl | hm
        · simp [hn]
        · have := h1 r hm; simp; omega
      · rw [List.drop_zero, List.filter_eq_self.2]
        intro r hr
        rcases List.mem_cons.1 hr with rfl | hm
        · simpa using hn
        · have := h1 r hm; simp; omega
    · obtain ⟨k, q1, q2, q3⟩ := cut_split n h2
      refine ⟨k + 1, by simp; omega, fun i r hr => ?_, ?_⟩
      · cases i with
        | zero => simp at hr; subst hr; simp; omega
        | succ i => simp at hr; rw [← q2 i r hr]; omega
      · rw [List.filter_cons_of_neg (by simpa using hn), ← q3]; rfl
theorem fromC_ok (p : Part) (n : Int) (i : Nat) (r : Row) (hr : p.rows[i]? = some r) : Ct Tryz.prog 182 (.t (.int .i64 i) :: liftT [.ptr (encPart p), .ptr [.int .i64 n]]) [] (.t (.bool (decide (r.offset ≥ n)))) [] := by
  refine ct0 progOk Tryz.func182 rfl false rfl rfl ?_
  repeat' (first | refine w_step progOk rfl rfl rfl ?_ | refine w_nil ?_ | refine w_seq ?_ | refine w_reg progOk rfl rfl ?_ | refine w_ret ?_ | refine w_regD (id := 1) (m := 7) progOk (by kernel_rfl) rfl rfl rfl rfl ?_ | refine s_step rfl rfl rfl rfl ?_ | refine s_index rfl rfl rfl rfl rfl rfl rfl (map_get (by assumption)) rfl ?_ | fail)
  exact w_fin rfl (Sub.refl _)
theorem from_ok (p : Part) (n : Int) (hs : p.rows.length ≤ 1000000) (hsrt : Srt Row.offset p.rows) : Ct Tryz.prog 136 [.agg (liftT (encPart p)), .t (.int .i64 n)] [] (.t (.slice .any 5 ((p.rows.filter (fun r => decide (n ≤ r.offset))).map encRow))) [] := by
  obtain ⟨k, q1, q2, q3⟩ := cut_split n hsrt
  have cs := search_ok 182 [.ptr (encPart p), .ptr [.int .i64 n]] p.rows.length k (by omega) q1 (fun i hi => by
    have hr : p.rows[i]? = some p.rows[i] := List.getElem?_eq_getElem hi
    have := fromC_ok p n i _ hr
    rwa [show decide (p.rows[i].offset ≥ n) = decide (k ≤ i) from decide_eq_decide.2 (q2 i _ hr).symm] at this) rfl
  have hlm : (p.rows.map encRow).length = p.rows.length := List.length_map ..
  rw [← hlm] at cs
  refine ct0 progOk Tryz.func136 rfl false rfl rfl ?_
  refine w_seq ?_
  refine w_reg progOk rfl rfl ?_
  repeat' (first | refine w_step progOk rfl rfl rfl ?_ | refine w_nil ?_ | fail)
  refine Tr.freezeBox (cs := encPart p) 2 4 rfl rfl rfl rfl ?_
  refine Tr.freezeBox (cs := [.int .i64 n]) 3 6 rfl rfl rfl rfl ?_
  repeat' (first | refine w_step progOk rfl rfl rfl ?_ | refine w_nil ?_ | refine w_seq ?_ | refine w_reg progOk rfl rfl ?_ | refine w_ret ?_ | refine w_call progOk rfl rfl rfl rfl rfl rfl rfl (cs) rfl rfl ?_ | refine w_slice progOk (l := k) (h := (p.rows.map encRow).length) rfl rfl rfl rfl rfl rfl (bnd_e rfl rfl) (bnd_e rfl rfl) (Nat.le_refl _) (by omega) (.inr ⟨rfl, rfl, bnd_e rfl rfl, rfl⟩) (show _ = (p.rows.drop k).map encRow by rw [← List.map_drop, List.take_of_length_le (by simp)]) rfl ?_ | fail)
  exact w_fin rfl (by rw [q3]; exact sub_slice)
end Go.Proofs.YtpdmaenhenfofaaGreatDoor

namespace Go.Proofs.YtpdmaenhenfofaaGreatDoor
open Go.Am
attribute [local irreducible] Decidable.decide
set_option maxRecDepth 100000
set_option maxHeartbeats 1000000
def placeT (p : Part) (n : Int) : T := if n < p.start ∨ p.fin < n then faultT 290 [97, 32, 112, 108, 97, 99, 101] 130 else .nilIface
theorem place_ok (p : Part) (n : Int) (hp : readOk p = true) (h1 : p.rows.length ≤ 1000000000) (h2 : p.opens.length ≤ 1000000000) : Ct Tryz.prog 134 [.agg (liftT (encPart p)), .t (.int .i64 n)] [] (.t (placeT p n)) [] := by
  have cc := rdcheck_ok p h1 h2
  rw [show rdT p = .nilIface by simp [rdT, hp]] at cc
  refine ct0 progOk Tryz.func134 rfl false rfl rfl ?_
  repeat' (first | refine w_step progOk rfl rfl rfl ?_ | refine w_nil ?_ | refine w_seq ?_ | refine w_reg progOk rfl rfl ?_ | (refine w_gFP rfl rfl rfl rfl rfl (ht := fun h => ?_) (hf := fun h => ?_) <;> try exact prn) | (refine w_condP rfl (ht := fun h => ?_) (hf := fun h => ?_) <;> try exact prn) | refine w_skip ?_ | refine w_ret ?_ | refine w_call progOk rfl rfl rfl rfl rfl rfl rfl (cc) rfl rfl ?_ | fail)
  all_goals refine w_fin rfl (Sub.of_eq ?_)
  all_goals try simp only [decide_eq_true_eq, decide_eq_false_iff_not, ge_iff_le, gt_iff_lt] at *
  all_goals first
    | (rw [show placeT p n = _ from if_pos (by omega)]; done)
    | (rw [show placeT p n = _ from if_pos (by omega)]; rfl)
    | (rw [show placeT p n = _ from if_neg (by omega)])
def cutP (p : Part) (n : Int) : Part := ⟨n, p.fin, p.rows.filter (fun r => decide (n ≤ r.offset)), p.opens, p.prods⟩
theorem rcut_ok (p : Part) (n : Int) (hs : smallPart p) (hp : readOk p = true) (hsrt : Srt Row.offset p.rows) (hin : p.start ≤ n ∧ n ≤ p.fin) : Ct Tryz.prog 78 [.agg (liftT (encPart p)), .t (.int .i64 n)] [] (.tuple [.agg (liftT (encPart (cutP p n))), .t (.int .i64 0)]) [] := by
  obtain ⟨h1, h2, h3, h4, h5⟩ := hs
  have cpl := place_ok p n hp (by omega) (by omega)
  rw [show placeT p n = .nilIface from if_neg (by omega)] at cpl
  have cfr := from_ok p n h1 hsrt
  have hfl : (p.rows.filter (fun r => decide (n ≤ r.offset))).length ≤ 1000000 := Nat.le_trans (List.length_filter_le ..) h1
  have cro := cloneRow_ok _ hfl
  have hlo : (p.opens.map encOpn).length = p.opens.length := List.length_map ..
  have hlp : (p.prods.map encProd).length = p.prods.length := List.length_map ..
  refine ct0 progOk Tryz.func78 rfl false rfl rfl ?_
  repeat' (first | refine w_stepZ progOk rfl rfl rfl rfl rfl ?_ | refine w_step progOk rfl rfl rfl ?_ | refine w_nil ?_ | refine w_seq ?_ | refine w_reg progOk rfl rfl ?_ | (refine w_condP rfl (ht := fun h => ?_) (hf := fun h => ?_) <;> try exact prn) | refine w_block ?_ | refine w_skip ?_ | refine w_regD (id := 4) (m := 9) progOk (by kernel_rfl) rfl rfl rfl rfl ?_ | refine s_step rfl rfl rfl rfl ?_ | refine w_call progOk rfl rfl rfl rfl rfl rfl rfl (cpl) rfl rfl ?_ | refine s_call rfl rfl rfl rfl rfl (cfr) rfl rfl ?_ | refine s_call rfl rfl rfl rfl rfl (cro) rfl rfl ?_ | fail)
  refine Tr.nilCell 14 4 80 4 rfl rfl rfl ?_
  refine Tr.nilCell 14 3 62 3 rfl rfl rfl ?_
  refine w_loop (ι := Nat) (fun i => i ≤ p.opens.length) (fun i => [(2, .ref 4 0), (4, .ref 8 0), (7, .ref 14 0), (32, .t (.slice .any 3 (p.opens.map encOpn))), (33, .t (.int .i64 ((p.opens.map encOpn).length : Int))), (34, .t (.int .i64 i))])
    (fun i => [(124, .grow 3 ((p.opens.take i).map encOpn)), (160, .grow 4 []), (14, .cells [.t (.int .i64 n), .t (.int .i64 p.fin), .t (.slice .any 5 ((p.rows.filter (fun r => decide (n ≤ r.offset))).map encRow)), .row 124 3 0 ((p.opens.take i).map encOpn).length, .row 160 4 0 0]), (8, .cells (liftT ti41.zero)), (4, .cells (liftT (encPart p)))]) (fun i => p.opens.length - i) 0 (by simp) ?_ ?_
  · exact at_of [] (sub_eq rfl rfl (sub_eq rfl rfl (sub_eq rfl rfl (sub_eq rfl rfl (sub_eq rfl rfl (sub_eq rfl rfl sub_nil)))))) rfl
  rintro i hi
  by_cases hlt : i < p.opens.length
  · have hr : p.opens[i]? = some p.opens[i] := List.getElem?_eq_getElem hlt
    have hsr := h3 p.opens[i] (List.getElem_mem hlt)
    generalize p.opens[i] = o at hr hsr
    have hlm : (o.batches.map encBatch).length = o.batches.length := List.length_map ..
    have hs1 := hsr.1
    repeat' (first | refine w_stepZ progOk rfl rfl rfl rfl rfl ?_ | refine w_step progOk rfl rfl rfl ?_ | refine w_nil ?_ | refine w_seq ?_ | refine w_reg progOk rfl rfl ?_ | (refine w_condP rfl (ht := fun h => ?_) (hf := fun h => ?_) <;> try exact prn) | refine w_block ?_ | refine w_skip ?_ | refine w_index progOk rfl rfl rfl rfl rfl rfl rfl (map_get (by assumption)) rfl ?_ | fail)
    refine Tr.nilCell 18 2 55 5 rfl rfl rfl ?_
    refine w_loop (ι := Nat) (fun j => j ≤ o.batches.length) (fun j => [(2, .ref 4 0), (4, .ref 8 0), (7, .ref 14 0), (9, .ref 18 0), (32, .t (.slice .any 3 (p.opens.map encOpn))), (33, .t (.int .i64 ((p.opens.map encOpn).length : Int))), (34, .t (.int .i64 i)), (41, .t (.slice .any 5 (o.batches.map encBatch))), (42, .t (.int .i64 ((o.batches.map encBatch).length : Int))), (43, .t (.int .i64 j))])
      (fun j => [(110, .grow 5 ((o.batches.take j).map encBatch)), (18, .cells [.t (.int .i64 o.pid), .t (.int .i64 o.epoch), .row 110 5 0 ((o.batches.take j).map encBatch).length]), (124, .grow 3 ((p.opens.take i).map encOpn)), (160, .grow 4 []), (14, .cells [.t (.int .i64 n), .t (.int .i64 p.fin), .t (.slice .any 5 ((p.rows.filter (fun r => decide (n ≤ r.offset))).map encRow)), .row 124 3 0 ((p.opens.take i).map encOpn).length, .row 160 4 0 0]), (8, .cells (liftT ti41.zero)), (4, .cells (liftT (encPart p)))]) (fun j => o.batches.length - j) 0 (by simp) ?_ ?_
    · exact at_of [] (sub_eq rfl rfl (sub_eq rfl rfl (sub_eq rfl rfl (sub_eq rfl rfl (sub_eq rfl rfl (sub_eq rfl rfl (sub_eq rfl rfl (sub_eq rfl rfl (sub_eq rfl rfl (sub_eq rfl rfl sub_nil)))))))))) rfl
    rintro j hj
    by_cases hlj : j < o.batches.length
    · have hr2 : o.batches[j]? = some o.batches[j] := List.getElem?_eq_getElem hlj
      have hsb := hsr.2 o.batches[j] (List.getElem_mem hlj)
      generalize o.batches[j] = b at hr2 hsb
      repeat' (first | refine w_stepZ progOk rfl rfl rfl rfl rfl ?_ | refine w_step progOk rfl rfl rfl ?_ | refine w_nil ?_ | refine w_seq ?_ | refine w_reg progOk rfl rfl ?_ | (refine w_condP rfl (ht := fun h => ?_) (hf := fun h => ?_) <;> try exact prn) | refine w_block ?_ | refine w_skip ?_ | refine w_index progOk rfl rfl rfl rfl rfl rfl rfl (map_get (by assumption)) rfl ?_ | refine w_appRow progOk rfl rfl rfl rfl rfl rfl rfl rfl rfl rfl rfl rfl rfl rfl (by simp [chunk]; omega) ?_ | refine w_call progOk rfl rfl rfl rfl rfl rfl rfl (cloneRecs_ok b.recs hsb) rfl rfl ?_ | fail)
      refine w_next (j + 1) hlj (by omega) [12] (sub_eq rfl rfl (sub_eq rfl rfl (sub_eq rfl rfl (sub_eq rfl rfl (sub_eq rfl rfl (sub_eq rfl rfl (sub_eq rfl rfl (sub_eq rfl rfl (sub_eq rfl rfl (sub_eq rfl (by rw [wrap64 (by omega) (by omega)]; rfl) sub_nil)))))))))) ?_
      have ht : (o.batches.take (j + 1)).map encBatch = (o.batches.take j).map encBatch ++ [encBatch b] := by rw [take_succ hr2]; simp
      rw [ht]; rfl
    · have hjt : o.batches.take j = o.batches := List.take_of_length_le (by omega)
      rw [hjt]
      have hfz : frzA 110 5 (o.batches.map encBatch) (.agg [.t (.int .i64 o.pid), .t (.int .i64 o.epoch), .row 110 5 0 (o.batches.map encBatch).length]) = .agg (liftT (encOpn o)) := by
        have t1 : (o.batches.map encBatch).take o.batches.length = o.batches.map encBatch := List.take_of_length_le (by simp)
        simp [frzA, frzL, encOpn, liftT, t1]
      repeat' (first | refine w_stepZ progOk rfl rfl rfl rfl rfl ?_ | refine w_step progOk rfl rfl rfl ?_ | refine w_nil ?_ | refine w_seq ?_ | refine w_reg progOk rfl rfl ?_ | (refine w_condP rfl (ht := fun h => ?_) (hf := fun h => ?_) <;> try exact prn) | refine w_exit ?_ | refine w_appRow progOk rfl rfl rfl rfl rfl rfl rfl rfl rfl rfl rfl rfl rfl rfl (by simp [chunk]; omega) ?_ | refine o_frzRow 60 110 rfl rfl rfl hfz ?_ | fail)
      refine w_next (i + 1) hlt (by omega) [9] (sub_eq rfl rfl (sub_eq rfl rfl (sub_eq rfl rfl (sub_eq rfl rfl (sub_eq rfl rfl (sub_eq rfl (by rw [wrap64 (by omega) (by omega)]; rfl) sub_nil)))))) ?_
      have ht : (p.opens.take (i + 1)).map encOpn = (p.opens.take i).map encOpn ++ [encOpn o] := by rw [take_succ hr]; simp
      rw [ht]; rfl
  · repeat' (first | refine w_step progOk rfl rfl rfl ?_ | refine w_nil ?_ | refine w_seq ?_ | refine w_reg progOk rfl rfl ?_ | (refine w_condP rfl (ht := fun h => ?_) (hf := fun h => ?_) <;> try exact prn) | refine w_block ?_ | refine w_exit ?_ | fail)
    have hto : p.opens.take i = p.opens := List.take_of_length_le (by omega)
    rw [hto]
    refine Tr.swapS rfl ?_
    refine w_loop (ι := Nat) (fun i => i ≤ p.prods.length) (fun i => [(4, .ref 8 0), (7, .ref 14 0), (66, .t (.slice .any 4 (p.prods.map encProd))), (67, .t (.int .i64 ((p.prods.map encProd).length : Int))), (68, .t (.int .i64 i))])
      (fun i => [(160, .grow 4 ((p.prods.take i).map encProd)), (124, .grow 3 (p.opens.map encOpn)), (14, .cells [.t (.int .i64 n), .t (.int .i64 p.fin), .t (.slice .any 5 ((p.rows.filter (fun r => decide (n ≤ r.offset))).map encRow)), .row 124 3 0 (p.opens.map encOpn).length, .row 160 4 0 ((p.prods.take i).map encProd).length]), (8, .cells (liftT ti41.zero)), (4, .cells (liftT (encPart p)))]) (fun i => p.prods.length - i) 0 (by simp) ?_ ?_
    · exact at_of [] (sub_eq rfl rfl (sub_eq rfl rfl (sub_eq rfl rfl (sub_eq rfl rfl (sub_eq rfl rfl sub_nil))))) rfl
    rintro j hj
    by_cases hlj : j < p.prods.length
    · have hr : p.prods[j]? = some p.prods[j] := List.getElem?_eq_getElem hlj
      have hsr := h5 p.prods[j] (List.getElem_mem hlj)
      generalize p.prods[j] = r at hr hsr
      repeat' (first | refine w_stepZ progOk rfl rfl rfl rfl rfl ?_ | refine w_step progOk rfl rfl rfl ?_ | refine w_nil ?_ | refine w_seq ?_ | refine w_reg progOk rfl rfl ?_ | (refine w_condP rfl (ht := fun h => ?_) (hf := fun h => ?_) <;> try exact prn) | refine w_block ?_ | refine w_skip ?_ | refine w_index progOk rfl rfl rfl rfl rfl rfl rfl (map_get (by assumption)) rfl ?_ | refine w_appRow progOk rfl rfl rfl rfl rfl rfl rfl rfl rfl rfl rfl rfl rfl rfl (by simp [chunk]; omega) ?_ | refine w_call progOk rfl rfl rfl rfl rfl rfl rfl (cloneSeen_ok r.seen hsr) rfl rfl ?_ | fail)
      refine w_next (j + 1) hlj (by omega) [14] (sub_eq rfl rfl (sub_eq rfl rfl (sub_eq rfl rfl (sub_eq rfl rfl (sub_eq rfl (by rw [wrap64 (by omega) (by omega)]; rfl) sub_nil))))) ?_
      have ht : (p.prods.take (j + 1)).map encProd = (p.prods.take j).map encProd ++ [encProd r] := by rw [take_succ hr]; simp
      rw [ht]; rfl
    · repeat' (first | refine w_stepZ progOk rfl rfl rfl rfl rfl ?_ | refine w_step progOk rfl rfl rfl ?_ | refine w_nil ?_ | refine w_seq ?_ | refine w_reg progOk rfl rfl ?_ | (refine w_condP rfl (ht := fun h => ?_) (hf := fun h => ?_) <;> try exact prn) | refine w_exit ?_ | refine w_ret ?_ | fail)
      have htp : p.prods.take j = p.prods := List.take_of_length_le (by omega)
      rw [htp]
      refine w_fin rfl (Sub.of_eq (Eq.trans (b := .tuple [frzA 124 3 (p.opens.map encOpn) (frzA 160 4 (p.prods.map encProd) (.agg [.t (.int .i64 n), .t (.int .i64 p.fin), .t (.slice .any 5 ((p.rows.filter (fun r => decide (n ≤ r.offset))).map encRow)), .row 124 3 0 (p.opens.map encOpn).length, .row 160 4 0 (p.prods.map encProd).length])), .t (.int .i64 0)]) rfl ?_))
      have b1 : Nat.beq 124 160 = false := rfl
      have b2 : Nat.beq 160 124 = false := rfl
      have t1 : (p.opens.map encOpn).take p.opens.length = p.opens.map encOpn := List.take_of_length_le (by simp)
      have t2 : (p.prods.map encProd).take p.prods.length = p.prods.map encProd := List.take_of_length_le (by simp)
      simp [frzA, frzL, encPart, cutP, liftT, b1, b2, t1, t2]
end Go.Proofs.YtpdmaenhenfofaaGreatDoor
