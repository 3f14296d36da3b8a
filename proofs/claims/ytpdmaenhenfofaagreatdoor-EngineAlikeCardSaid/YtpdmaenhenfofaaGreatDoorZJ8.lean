/- Contracts and laws, joined: Qa, Qb, Qc, Qd. No condition beside those that each theorem names. -/
import Derived.Test.YtpdmaenhenfofaaGreatDoorZM9
import Derived.Test.YtpdmaenhenfofaaGreatDoorZJ3
import Derived.Test.YtpdmaenhenfofaaGreatDoorZJ5
import Derived.Test.YtpdmaenhenfofaaGreatDoorZEd
import Derived.Test.YtpdmaenhenfofaaGreatDoorZEf
import Derived.Test.YtpdmaenhenfofaaGreatDoorZJ6
set_option linter.unusedVariables false
set_option linter.unusedSimpArgs false
namespace Go.Proofs.YtpdmaenhenfofaaGreatDoor
open Go.Am
attribute [local irreducible] Decidable.decide
set_option maxRecDepth 100000
set_option maxHeartbeats 1000000
def faultT (t : Nat) (what : Bs) (n : Int) : T := .iface t (.ptr [.str what, .int .i64 n])
/- a number of the items rises -/
def rises {α : Type} (f : α → Int) (l : List α) : Bool := decide ((l.map f).Pairwise (· < ·))
theorem rises_get {α : Type} {f : α → Int} {l : List α} (h : rises f l = true) {i j : Nat} {x y : α} (hx : l[i]? = some x) (hy : l[j]? = some y) (hij : i < j) : f x < f y := by
  have := of_decide_eq_true h
  rw [List.pairwise_map] at this
  obtain ⟨h1, rfl⟩ := List.getElem?_eq_some_iff.1 hx
  obtain ⟨h2, rfl⟩ := List.getElem?_eq_some_iff.1 hy
  exact List.pairwise_iff_getElem.1 this i j h1 h2 hij
theorem rises_not {α : Type} {f : α → Int} {l : List α} {i : Nat} {x y : α} (hx : l[i]? = some x) (hy : l[i - 1]? = some y) (hi : 1 ≤ i) (h : f x ≤ f y) : rises f l = false := by
  cases hr : rises f l with
  | false => rfl
  | true => have := rises_get hr hy hx (by omega); omega
theorem rises_step {α : Type} {f : α → Int} {l : List α} {i : Nat} {x y : α} (hx : l[i]? = some x) (hy : l[i - 1]? = some y) (hi : 1 ≤ i) (h : f y < f x) (hr : rises f (l.take i) = true) : rises f (l.take (i + 1)) = true := by
  rw [take_succ hx]
  refine decide_eq_true ?_
  rw [List.map_append, List.pairwise_append]
  refine ⟨of_decide_eq_true hr, by simp, fun a ha b hb => ?_⟩
  simp at hb; subst hb
  obtain ⟨z, hz, rfl⟩ := List.mem_map.1 ha
  obtain ⟨j, hj, rfl⟩ := List.getElem_of_mem hz
  have hlen : (l.take i).length = i := by simp; have := (List.getElem?_eq_some_iff.1 hx).1; omega
  rw [hlen] at hj
  have hjj : (l.take i)[j]? = some (l.take i)[j] := List.getElem?_eq_getElem _
  by_cases e : j = i - 1
  · have : (l.take i)[j]? = some y := by rw [List.getElem?_take, if_pos hj, e]; exact hy
    rw [hjj] at this; cases this; exact h
  · have hyy : (l.take i)[i - 1]? = some y := by rw [List.getElem?_take, if_pos (by omega)]; exact hy
    have := rises_get hr hjj hyy (by omega)
    omega
theorem rises_one {α : Type} (f : α → Int) (l : List α) (h : l.length ≤ 1) : rises f l = true := by
  match l, h with
  | [], _ => simp [rises]
  | [a], _ => simp [rises]
theorem risingRow_ok (fnum : Nat) (f : Row → Int) (l : List Row) (hl : l.length ≤ 1000000000) (hf : ∀ r, Ct Tryz.prog fnum [.agg (liftT (encRow r))] [] (.t (.int .i64 (f r))) []) :
    Ct Tryz.prog 193 [.t (.slice .any 5 (l.map encRow)), .t (.func (.func fnum) [] [])] [] (.t (.bool (rises f l))) [] := by
  refine ct0 progOk Tryz.func193 rfl false rfl rfl ?_
  have hlm : (l.map encRow).length = l.length := List.length_map ..
  repeat' (first | refine w_step progOk rfl rfl rfl ?_ | refine w_nil ?_ | refine w_seq ?_ | refine w_reg progOk rfl rfl ?_ | refine w_block ?_ | fail)
  refine w_loop (ι := Nat) (fun i => 1 ≤ i ∧ i ≤ l.length + 1 ∧ rises f (l.take i) = true) (fun i => [(0, .t (.slice .any 5 (l.map encRow))), (1, .t (.func (.func fnum) [] [])), (5, .t (.int .i64 i))]) (fun _ => []) (fun i => l.length + 1 - i) 1 ⟨by simp, by simp, rises_one _ _ (by simp; omega)⟩ ?_ ?_
  · exact at_of [] (sub_eq rfl rfl (sub_eq rfl rfl (sub_eq rfl rfl sub_nil))) rfl
  rintro i ⟨h1, hi, hr0⟩
  by_cases hlt : i < l.length
  · have hr : l[i]? = some l[i] := List.getElem?_eq_getElem hlt
    have hs : l[i - 1]? = some (l[i - 1]'(by omega)) := List.getElem?_eq_getElem _
    generalize l[i] = r at hr
    generalize l[i - 1]'(by omega) = s at hs
    have hw : IntKind.i64.wrap ((i : Int) - 1) = ((i - 1 : Nat) : Int) := by rw [wrap64 (by omega) (by omega)]; omega
    repeat' (first | refine w_step progOk rfl rfl rfl ?_ | refine w_nil ?_ | refine w_seq ?_ | refine w_reg progOk rfl rfl ?_ | (refine w_condP rfl (ht := fun h => ?_) (hf := fun h => ?_) <;> try exact prn) | refine w_block ?_ | refine w_skip ?_ | refine w_ret ?_ | refine w_regD (id := 4) (m := 12) progOk (by kernel_rfl) rfl rfl rfl rfl ?_ | refine s_step rfl rfl rfl rfl ?_ | refine s_nil ?_ | refine s_index rfl rfl rfl rfl rfl rfl rfl (map_get (by assumption)) rfl ?_ | refine s_indexE rfl rfl rfl rfl rfl rfl rfl (by assumption) (map_get (by assumption)) rfl ?_ | refine s_call rfl rfl rfl rfl rfl (hf r) rfl rfl ?_ | refine w_call progOk rfl rfl rfl rfl rfl rfl rfl (hf s) rfl rfl ?_ | fail)
    · refine w_fin rfl (subB ?_)
      rw [rises_not hr hs h1 (by simpa using h)]
    · refine w_next (i + 1) ⟨by omega, by omega, rises_step hr hs h1 (by omega) hr0⟩ (by omega) [] (sub_eq rfl rfl (sub_eq rfl rfl (sub_eq rfl ?_ sub_nil))) rfl
      rw [wrap64 (by omega) (by omega)]; rfl
  · repeat' (first | refine w_step progOk rfl rfl rfl ?_ | refine w_nil ?_ | refine w_seq ?_ | refine w_reg progOk rfl rfl ?_ | (refine w_condP rfl (ht := fun h => ?_) (hf := fun h => ?_) <;> try exact prn) | refine w_exit ?_ | refine w_ret ?_ | fail)
    refine w_fin rfl (subB ?_)
    rw [List.take_of_length_le (by omega)] at hr0
    exact hr0.symm
theorem risingOpn_ok (fnum : Nat) (f : Opn → Int) (l : List Opn) (hl : l.length ≤ 1000000000) (hf : ∀ r, Ct Tryz.prog fnum [.agg (liftT (encOpn r))] [] (.t (.int .i64 (f r))) []) :
    Ct Tryz.prog 195 [.t (.slice .any 3 (l.map encOpn)), .t (.func (.func fnum) [] [])] [] (.t (.bool (rises f l))) [] := by
  refine ct0 progOk Tryz.func195 rfl false rfl rfl ?_
  have hlm : (l.map encOpn).length = l.length := List.length_map ..
  repeat' (first | refine w_step progOk rfl rfl rfl ?_ | refine w_nil ?_ | refine w_seq ?_ | refine w_reg progOk rfl rfl ?_ | refine w_block ?_ | fail)
  refine w_loop (ι := Nat) (fun i => 1 ≤ i ∧ i ≤ l.length + 1 ∧ rises f (l.take i) = true) (fun i => [(0, .t (.slice .any 3 (l.map encOpn))), (1, .t (.func (.func fnum) [] [])), (5, .t (.int .i64 i))]) (fun _ => []) (fun i => l.length + 1 - i) 1 ⟨by simp, by simp, rises_one _ _ (by simp; omega)⟩ ?_ ?_
  · exact at_of [] (sub_eq rfl rfl (sub_eq rfl rfl (sub_eq rfl rfl sub_nil))) rfl
  rintro i ⟨h1, hi, hr0⟩
  by_cases hlt : i < l.length
  · have hr : l[i]? = some l[i] := List.getElem?_eq_getElem hlt
    have hs : l[i - 1]? = some (l[i - 1]'(by omega)) := List.getElem?_eq_getElem _
    generalize l[i] = r at hr
    generalize l[i - 1]'(by omega) = s at hs
    have hw : IntKind.i64.wrap ((i : Int) - 1) = ((i - 1 : Nat) : Int) := by rw [wrap64 (by omega) (by omega)]; omega
    repeat' (first | refine w_step progOk rfl rfl rfl ?_ | refine w_nil ?_ | refine w_seq ?_ | refine w_reg progOk rfl rfl ?_ | (refine w_condP rfl (ht := fun h => ?_) (hf := fun h => ?_) <;> try exact prn) | refine w_block ?_ | refine w_skip ?_ | refine w_ret ?_ | refine w_regD (id := 4) (m := 12) progOk (by kernel_rfl) rfl rfl rfl rfl ?_ | refine s_step rfl rfl rfl rfl ?_ | refine s_nil ?_ | refine s_index rfl rfl rfl rfl rfl rfl rfl (map_get (by assumption)) rfl ?_ | refine s_indexE rfl rfl rfl rfl rfl rfl rfl (by assumption) (map_get (by assumption)) rfl ?_ | refine s_call rfl rfl rfl rfl rfl (hf r) rfl rfl ?_ | refine w_call progOk rfl rfl rfl rfl rfl rfl rfl (hf s) rfl rfl ?_ | fail)
    · refine w_fin rfl (subB ?_)
      rw [rises_not hr hs h1 (by simpa using h)]
    · refine w_next (i + 1) ⟨by omega, by omega, rises_step hr hs h1 (by omega) hr0⟩ (by omega) [] (sub_eq rfl rfl (sub_eq rfl rfl (sub_eq rfl ?_ sub_nil))) rfl
      rw [wrap64 (by omega) (by omega)]; rfl
  · repeat' (first | refine w_step progOk rfl rfl rfl ?_ | refine w_nil ?_ | refine w_seq ?_ | refine w_reg progOk rfl rfl ?_ | (refine w_condP rfl (ht := fun h => ?_) (hf := fun h => ?_) <;> try exact prn) | refine w_exit ?_ | refine w_ret ?_ | fail)
    refine w_fin rfl (subB ?_)
    rw [List.take_of_length_le (by omega)] at hr0
    exact hr0.symm
end Go.Proofs.YtpdmaenhenfofaaGreatDoor

namespace Go.Proofs.YtpdmaenhenfofaaGreatDoor
open Go.Am
attribute [local irreducible] Decidable.decide
set_option maxRecDepth 100000
set_option maxHeartbeats 1000000
def rowIn (p : Part) (r : Row) : Bool := decide (p.start ≤ r.offset ∧ r.offset < p.fin)
def readOk (p : Part) : Bool := decide (0 ≤ p.start ∧ p.start ≤ p.fin ∧ p.fin ≤ 1048576) && (rises Row.offset p.rows && (p.rows.all (rowIn p) && (rises Opn.pid p.opens && !p.opens.any (fun o => o.batches.isEmpty))))
def rdMsg : Bs := [97, 32, 112, 97, 114, 116, 32, 116, 104, 97, 116, 32, 99, 97, 110, 110, 111, 116, 32, 98, 101, 32, 114, 101, 97, 100]
def rdT (p : Part) : T := if readOk p = true then .nilIface else faultT 290 rdMsg 2
theorem ends_all {p : Part} {a z : Row} (hr : rises Row.offset p.rows = true) (ha : p.rows[0]? = some a) (hz : p.rows[p.rows.length - 1]? = some z) : p.rows.all (rowIn p) = decide (p.start ≤ a.offset ∧ z.offset < p.fin) := by
  rw [Bool.eq_iff_iff, List.all_eq_true]
  simp only [rowIn, decide_eq_true_eq]
  constructor
  · intro h; exact ⟨(h a (List.mem_of_getElem? ha)).1, (h z (List.mem_of_getElem? hz)).2⟩
  · intro h r hm
    obtain ⟨i, hi⟩ := List.getElem?_of_mem hm
    have hlt := (List.getElem?_eq_some_iff.1 hi).1
    constructor
    · by_cases e : i = 0
      · subst e; rw [ha] at hi; cases hi; exact h.1
      · have := rises_get hr ha hi (by omega); omega
    · by_cases e : i = p.rows.length - 1
      · subst e; rw [hz] at hi; cases hi; exact h.2
      · have := rises_get hr hi hz (by omega); omega
theorem rdOff_ok (r : Row) : Ct Tryz.prog 194 [.agg (liftT (encRow r))] [] (.t (.int .i64 r.offset)) [] := by
  refine ct0 progOk Tryz.func194 rfl false rfl rfl ?_
  repeat' (first | refine w_step progOk rfl rfl rfl ?_ | refine w_nil ?_ | refine w_seq ?_ | refine w_reg progOk rfl rfl ?_ | refine w_ret ?_ | fail)
  exact w_fin rfl (Sub.refl _)
theorem rdPid_ok (o : Opn) : Ct Tryz.prog 196 [.agg (liftT (encOpn o))] [] (.t (.int .i64 o.pid)) [] := by
  refine ct0 progOk Tryz.func196 rfl false rfl rfl ?_
  repeat' (first | refine w_step progOk rfl rfl rfl ?_ | refine w_nil ?_ | refine w_seq ?_ | refine w_reg progOk rfl rfl ?_ | refine w_ret ?_ | fail)
  exact w_fin rfl (Sub.refl _)
theorem rdEmp_ok (o : Opn) : Ct Tryz.prog 198 [.agg (liftT (encOpn o))] [] (.t (.bool o.batches.isEmpty)) [] := by
  refine ct0 progOk Tryz.func198 rfl false rfl rfl ?_
  repeat' (first | refine w_step progOk rfl rfl rfl ?_ | refine w_nil ?_ | refine w_seq ?_ | refine w_reg progOk rfl rfl ?_ | refine w_ret ?_ | fail)
  refine w_fin rfl (subB ?_)
  cases o.batches <;> simp; omega
theorem rdcheck_ok (p : Part) (h1 : p.rows.length ≤ 1000000000) (h2 : p.opens.length ≤ 1000000000) : Ct Tryz.prog 153 [.agg (liftT (encPart p))] [] (.t (rdT p)) [] := by
  have c1 := risingRow_ok 194 Row.offset p.rows h1 rdOff_ok
  have c2 := risingOpn_ok 196 Opn.pid p.opens h2 rdPid_ok
  have c3 := containsOpn_ok 198 [] (fun o => o.batches.isEmpty) p.opens h2 rdEmp_ok rfl
  have hlm : (p.rows.map encRow).length = p.rows.length := List.length_map ..
  refine ct0 progOk Tryz.func153 rfl false rfl rfl ?_
  by_cases hlt : 0 < p.rows.length
  · have ha : p.rows[0]? = some p.rows[0] := List.getElem?_eq_getElem _
    have hz : p.rows[p.rows.length - 1]? = some (p.rows[p.rows.length - 1]'(by omega)) := List.getElem?_eq_getElem _
    have he := fun hr => ends_all hr ha hz
    generalize p.rows[0] = a at ha he
    generalize p.rows[p.rows.length - 1]'(by omega) = z at hz he
    have hw : IntKind.i64.wrap (((p.rows.map encRow).length : Int) - 1) = ((p.rows.length - 1 : Nat) : Int) := by rw [hlm, wrap64 (by omega) (by omega)]; omega
    have hiff : readOk p = true ↔ (0 ≤ p.start ∧ p.start ≤ p.fin ∧ p.fin ≤ 1048576) ∧ rises Row.offset p.rows = true ∧ (p.start ≤ a.offset ∧ z.offset < p.fin) ∧ rises Opn.pid p.opens = true ∧ ¬ p.opens.any (fun o => o.batches.isEmpty) = true := by
      simp only [readOk, Bool.and_eq_true, decide_eq_true_eq, Bool.not_eq_true', Bool.not_eq_true]
      constructor
      · rintro ⟨q1, q2, q3, q4, q5⟩; rw [he q2, decide_eq_true_eq] at q3; exact ⟨q1, q2, q3, q4, q5⟩
      · rintro ⟨q1, q2, q3, q4, q5⟩; exact ⟨q1, q2, by rw [he q2, decide_eq_true_eq]; exact q3, q4, q5⟩
    repeat' (first | refine w_step progOk rfl rfl rfl ?_ | refine w_nil ?_ | refine w_seq ?_ | refine w_reg progOk rfl rfl ?_ | (refine w_gTP rfl rfl rfl rfl rfl (ht := fun h => ?_) (hf := fun h => ?_) <;> try exact prn) | (refine w_gFP rfl rfl rfl rfl rfl (ht := fun h => ?_) (hf := fun h => ?_) <;> try exact prn) | (refine w_condP rfl (ht := fun h => ?_) (hf := fun h => ?_) <;> try exact prn) | refine w_block ?_ | refine w_skip ?_ | refine w_exit ?_ | refine w_ret ?_ | refine w_regD (id := 4) (m := 21) progOk (by kernel_rfl) rfl rfl rfl rfl ?_ | refine s_step rfl rfl rfl rfl ?_ | (refine s_gTP rfl rfl rfl rfl rfl (ht := fun h => ?_) (hf := fun h => ?_) <;> try exact prn) | (refine s_gFP rfl rfl rfl rfl rfl (ht := fun h => ?_) (hf := fun h => ?_) <;> try exact prn) | refine s_index rfl rfl rfl rfl rfl rfl rfl (map_get (by assumption)) rfl ?_ | refine s_indexE rfl rfl rfl rfl rfl rfl rfl (by assumption) (map_get (by assumption)) rfl ?_ | refine w_call progOk rfl rfl rfl rfl rfl rfl rfl (c1) rfl rfl ?_ | refine w_call progOk rfl rfl rfl rfl rfl rfl rfl (c2) rfl rfl ?_ | refine w_call progOk rfl rfl rfl rfl rfl rfl rfl (c3) rfl rfl ?_ | fail)
    all_goals refine w_fin rfl (Sub.of_eq ?_)
    all_goals first | (rw [rdT, if_pos (hiff.2 ⟨by omega, by first | assumption | exact Classical.byContradiction (by assumption), by omega, by first | assumption | exact Classical.byContradiction (by assumption), by first | assumption | exact Classical.byContradiction (by assumption)⟩)]) | (rw [rdT, if_neg (fun hc => by obtain ⟨q1, q2, q3, q4, q5⟩ := hiff.1 hc; first | omega | contradiction)]; rfl)
  · have hn : p.rows = [] := List.eq_nil_of_length_eq_zero (by omega)
    have hiff : readOk p = true ↔ (0 ≤ p.start ∧ p.start ≤ p.fin ∧ p.fin ≤ 1048576) ∧ rises Row.offset p.rows = true ∧ rises Opn.pid p.opens = true ∧ ¬ p.opens.any (fun o => o.batches.isEmpty) = true := by
      simp only [readOk, Bool.and_eq_true, decide_eq_true_eq, Bool.not_eq_true', Bool.not_eq_true]
      have ha : p.rows.all (rowIn p) = true := by rw [hn]; rfl
      rw [ha]; simp
    repeat' (first | refine w_step progOk rfl rfl rfl ?_ | refine w_nil ?_ | refine w_seq ?_ | refine w_reg progOk rfl rfl ?_ | (refine w_gTP rfl rfl rfl rfl rfl (ht := fun h => ?_) (hf := fun h => ?_) <;> try exact prn) | (refine w_gFP rfl rfl rfl rfl rfl (ht := fun h => ?_) (hf := fun h => ?_) <;> try exact prn) | refine w_guardU rfl rfl rfl rfl rfl ?_ | (refine w_condP rfl (ht := fun h => ?_) (hf := fun h => ?_) <;> try exact prn) | refine w_block ?_ | refine w_skip ?_ | refine w_exit ?_ | refine w_ret ?_ | refine w_regD (id := 4) (m := 21) progOk (by kernel_rfl) rfl rfl rfl rfl ?_ | refine s_step rfl rfl rfl rfl ?_ | (refine s_gTP rfl rfl rfl rfl rfl (ht := fun h => ?_) (hf := fun h => ?_) <;> try exact prn) | refine s_guardU rfl rfl rfl rfl rfl ?_ | refine w_call progOk rfl rfl rfl rfl rfl rfl rfl (c1) rfl rfl ?_ | refine w_call progOk rfl rfl rfl rfl rfl rfl rfl (c2) rfl rfl ?_ | refine w_call progOk rfl rfl rfl rfl rfl rfl rfl (c3) rfl rfl ?_ | fail)
    all_goals refine w_fin rfl (Sub.of_eq ?_)
    all_goals first | (rw [rdT, if_pos (hiff.2 ⟨by omega, by first | assumption | exact Classical.byContradiction (by assumption), by first | assumption | exact Classical.byContradiction (by assumption), by first | assumption | exact Classical.byContradiction (by assumption)⟩)]) | (rw [rdT, if_neg (fun hc => by obtain ⟨q1, q2, q4, q5⟩ := hiff.1 hc; first | omega | contradiction)]; rfl)
end Go.Proofs.YtpdmaenhenfofaaGreatDoor

namespace Go.Proofs.YtpdmaenhenfofaaGreatDoor
open Go.Am
attribute [local irreducible] Decidable.decide
set_option maxRecDepth 100000
set_option maxHeartbeats 1000000
def rowBad (r : Row) : Bool := decide (r.pid < 1 ∨ r.pid > 8 ∨ r.seq < 0 ∨ r.seq ≥ 1048576 ∨ r.key.length > 16 ∨ r.value.length > 16)
theorem wrong_ok (r : Row) : Ct Tryz.prog 94 [.agg (liftT (encRow r))] [] (.t (.bool (rowBad r))) [] := by
  refine ct0 progOk Tryz.func94 rfl false rfl rfl ?_
  repeat' (first | refine w_step progOk rfl rfl rfl ?_ | refine w_nil ?_ | refine w_seq ?_ | refine w_reg progOk rfl rfl ?_ | (refine w_gFP rfl rfl rfl rfl rfl (ht := fun h => ?_) (hf := fun h => ?_) <;> try exact prn) | refine w_ret ?_ | fail)
  all_goals (refine w_fin rfl (subB ?_); simp only [rowBad]; first | exact bI (by omega) | exact bT (by omega) | exact bF (by omega))
def mayFrom (last : Int) : List Prod → Bool
  | [] => true
  | p :: r => (decide (last < p.pid) && knownP p) && mayFrom p.pid r
def mayPs (l : List Prod) : Bool := mayFrom 0 l
def smallPs (l : List Prod) : Prop := l.length ≤ 1000000 ∧ ∀ p ∈ l, p.seen.length ≤ 1000000
theorem mayPs_ok (l : List Prod) (hl : smallPs l) : Ct Tryz.prog 95 [.t (.slice .any 4 (l.map encProd))] [] (.t (.bool (mayPs l))) [] := by
  obtain ⟨hl, hsm⟩ := hl
  have hlm : (l.map encProd).length = l.length := List.length_map ..
  refine ct0 progOk Tryz.func95 rfl false rfl rfl ?_
  repeat' (first | refine w_step progOk rfl rfl rfl ?_ | refine w_nil ?_ | refine w_seq ?_ | refine w_reg progOk rfl rfl ?_ | refine w_block ?_ | fail)
  refine w_loop (ι := Nat × Int) (fun q => q.1 ≤ l.length ∧ mayPs l = mayFrom q.2 (l.drop q.1)) (fun q => [(3, .t (.int .i64 q.2)), (6, .t (.slice .any 4 (l.map encProd))), (7, .t (.int .i64 ((l.map encProd).length : Int))), (8, .t (.int .i64 q.1))]) (fun _ => []) (fun q => l.length - q.1) (0, 0) ⟨by simp, rfl⟩ ?_ ?_
  · exact at_of [] (sub_eq rfl rfl (sub_eq rfl rfl (sub_eq rfl rfl (sub_eq rfl rfl sub_nil)))) rfl
  rintro ⟨i, last⟩ ⟨hi, hm⟩
  simp only at hi hm
  by_cases hlt : i < l.length
  · have hr : l[i]? = some l[i] := List.getElem?_eq_getElem hlt
    have hs := hsm l[i] (List.getElem_mem hlt)
    generalize l[i] = r at hr hs
    rw [drop_cons hr] at hm
    simp only [mayFrom] at hm
    repeat' (first | refine w_stepZ progOk rfl rfl rfl rfl rfl ?_ | refine w_step progOk rfl rfl rfl ?_ | refine w_nil ?_ | refine w_seq ?_ | refine w_reg progOk rfl rfl ?_ | (refine w_gFP rfl rfl rfl rfl rfl (ht := fun h => ?_) (hf := fun h => ?_) <;> try exact prn) | (refine w_condP rfl (ht := fun h => ?_) (hf := fun h => ?_) <;> try exact prn) | refine w_block ?_ | refine w_skip ?_ | refine w_ret ?_ | refine w_index progOk rfl rfl rfl rfl rfl rfl rfl (map_get (by assumption)) rfl ?_ | refine w_call progOk rfl rfl rfl rfl rfl rfl rfl (known_ok r hs) rfl rfl ?_ | fail)
    · have hk : knownP r = false := by simpa using h
      refine w_fin rfl (subB ?_); rw [hm, hk]; simp
    · have hk : knownP r = true := Classical.byContradiction h
      refine w_next (i + 1, r.pid) ⟨by simp; omega, ?_⟩ (by simp; omega) [5] (sub_eq rfl rfl (sub_eq rfl rfl (sub_eq rfl rfl (sub_eq rfl ?_ sub_nil)))) rfl
      · rw [hm, hk, decide_eq_true (show last < r.pid by simp only at *; omega)]; rfl
      · rw [wrap64 (by omega) (by omega)]; rfl
    · refine w_fin rfl (subB ?_); rw [hm, decide_eq_false (show ¬ last < r.pid by simp only at *; omega)]; simp
  · repeat' (first | refine w_step progOk rfl rfl rfl ?_ | refine w_nil ?_ | refine w_seq ?_ | refine w_reg progOk rfl rfl ?_ | (refine w_condP rfl (ht := fun h => ?_) (hf := fun h => ?_) <;> try exact prn) | refine w_exit ?_ | refine w_ret ?_ | fail)
    refine w_fin rfl (subB ?_)
    rw [hm, List.drop_of_length_le (by omega)]; rfl
/- the first that is wanted -/
def fstI {α : Type} (p : α → Bool) (l : List α) : Int := match l.findIdx? p with
  | some i => (i : Int)
  | none => (l.length : Int)
theorem fst_at {α : Type} {p : α → Bool} {l : List α} {i : Nat} {x : α} (h : l[i]? = some x) (ha : (l.take i).any p = false) (hp : p x = true) : fstI p l = (i : Int) ∧ l.any p = true := by
  have := idx_at h ha hp
  refine ⟨?_, any_of_get h hp⟩
  unfold idxOf at this; unfold fstI
  split at this
  · rename_i j hj; rw [hj]; exact this
  · omega
theorem fst_none {α : Type} {p : α → Bool} {l : List α} (h : l.any p = false) : fstI p l = (l.length : Int) := by
  have := idx_none h
  unfold idxOf at this; unfold fstI
  split at this
  · omega
  · rename_i hj; rw [hj]
theorem fst_get {α : Type} {p : α → Bool} {l : List α} (h : l.any p = true) : ∃ (i : Nat) (x : α), l[i]? = some x ∧ fstI p l = (i : Int) ∧ l.find? p = some x ∧ p x = true := by
  have h1 : ∃ i, l.findIdx? p = some i := by
    cases hf : l.findIdx? p with
    | some i => exact ⟨i, rfl⟩
    | none => rw [List.findIdx?_eq_none_iff] at hf; rw [List.any_eq_true] at h; obtain ⟨x, hx, hp⟩ := h; have := hf x hx; simp [hp] at this
  obtain ⟨i, hi⟩ := h1
  have h2 := List.findIdx?_eq_some_iff_getElem.1 hi
  obtain ⟨hlt, hp, hno⟩ := h2
  refine ⟨i, l[i], List.getElem?_eq_getElem hlt, by simp [fstI, hi], ?_, hp⟩
  rw [List.find?_eq_some_iff_getElem]
  exact ⟨hp, i, hlt, rfl, fun j hj => by have := hno j hj; simpa using this⟩
theorem firstProd_ok (fnum : Nat) (cap : List T) (p : Prod → Bool) (l : List Prod) (hl : l.length ≤ 1000000000) (hf : ∀ r, Ct Tryz.prog fnum (.agg (liftT (encProd r)) :: liftT cap) [] (.t (.bool (p r))) []) (hfr : freeL (liftT cap) = true) :
    Ct Tryz.prog 106 [.t (.slice .any 4 (l.map encProd)), .t (.func (.func fnum) [] cap)] [] (.tuple [.t (.int .i64 (fstI p l)), .t (.bool (l.any p))]) [] := by
  refine ct0 progOk Tryz.func106 rfl false rfl rfl ?_
  have hlm : (l.map encProd).length = l.length := List.length_map ..
  repeat' (first | refine w_step progOk rfl rfl rfl ?_ | refine w_nil ?_ | refine w_seq ?_ | refine w_reg progOk rfl rfl ?_ | refine w_block ?_ | fail)
  refine w_loop (ι := Nat) (fun i => i ≤ l.length ∧ (l.take i).any p = false) (fun i => [(0, .t (.slice .any 4 (l.map encProd))), (1, .t (.func (.func fnum) [] cap)), (8, .t (.slice .any 4 (l.map encProd))), (9, .t (.int .i64 ((l.map encProd).length : Int))), (10, .t (.int .i64 i))]) (fun _ => []) (fun i => l.length - i) 0 (by simp) ?_ ?_
  · exact at_of [] (sub_eq rfl rfl (sub_eq rfl rfl (sub_eq rfl rfl (sub_eq rfl rfl (sub_eq rfl rfl sub_nil))))) rfl
  rintro i ⟨hi, hany⟩
  by_cases hlt : i < l.length
  · have hr : l[i]? = some l[i] := List.getElem?_eq_getElem hlt
    generalize l[i] = r at hr
    repeat' (first | refine w_stepZ progOk rfl rfl rfl rfl rfl ?_ | refine w_step progOk rfl rfl rfl ?_ | refine w_nil ?_ | refine w_seq ?_ | refine w_reg progOk rfl rfl ?_ | (refine w_condP rfl (ht := fun h => ?_) (hf := fun h => ?_) <;> try exact prn) | refine w_block ?_ | refine w_skip ?_ | refine w_ret ?_ | refine w_index progOk rfl rfl rfl rfl rfl rfl rfl (map_get (by assumption)) rfl ?_ | refine w_call progOk rfl rfl rfl rfl rfl rfl hfr (hf r) rfl rfl ?_ | fail)
    · obtain ⟨q1, q2⟩ := fst_at hr hany h
      exact w_fin rfl (Sub.of_eq (by rw [q1, q2]))
    · refine w_next (i + 1) ⟨hlt, any_take_succ hr hany (by simpa using h)⟩ (by omega) [7] (sub_eq rfl rfl (sub_eq rfl rfl (sub_eq rfl rfl (sub_eq rfl rfl (sub_eq rfl ?_ sub_nil))))) rfl
      rw [wrap64 (by omega) (by omega)]; rfl
  · repeat' (first | refine w_step progOk rfl rfl rfl ?_ | refine w_nil ?_ | refine w_seq ?_ | refine w_reg progOk rfl rfl ?_ | (refine w_condP rfl (ht := fun h => ?_) (hf := fun h => ?_) <;> try exact prn) | refine w_exit ?_ | refine w_ret ?_ | fail)
    have ha := any_take_all (by omega) hany
    exact w_fin rfl (Sub.of_eq (by rw [fst_none ha, ha, hlm]))
theorem firstSeen_ok (fnum : Nat) (cap : List T) (p : Seen → Bool) (l : List Seen) (hl : l.length ≤ 1000000000) (hf : ∀ r, Ct Tryz.prog fnum (.agg (liftT (encSeen r)) :: liftT cap) [] (.t (.bool (p r))) []) (hfr : freeL (liftT cap) = true) :
    Ct Tryz.prog 175 [.t (.slice .any 3 (l.map encSeen)), .t (.func (.func fnum) [] cap)] [] (.tuple [.t (.int .i64 (fstI p l)), .t (.bool (l.any p))]) [] := by
  refine ct0 progOk Tryz.func175 rfl false rfl rfl ?_
  have hlm : (l.map encSeen).length = l.length := List.length_map ..
  repeat' (first | refine w_step progOk rfl rfl rfl ?_ | refine w_nil ?_ | refine w_seq ?_ | refine w_reg progOk rfl rfl ?_ | refine w_block ?_ | fail)
  refine w_loop (ι := Nat) (fun i => i ≤ l.length ∧ (l.take i).any p = false) (fun i => [(0, .t (.slice .any 3 (l.map encSeen))), (1, .t (.func (.func fnum) [] cap)), (8, .t (.slice .any 3 (l.map encSeen))), (9, .t (.int .i64 ((l.map encSeen).length : Int))), (10, .t (.int .i64 i))]) (fun _ => []) (fun i => l.length - i) 0 (by simp) ?_ ?_
  · exact at_of [] (sub_eq rfl rfl (sub_eq rfl rfl (sub_eq rfl rfl (sub_eq rfl rfl (sub_eq rfl rfl sub_nil))))) rfl
  rintro i ⟨hi, hany⟩
  by_cases hlt : i < l.length
  · have hr : l[i]? = some l[i] := List.getElem?_eq_getElem hlt
    generalize l[i] = r at hr
    repeat' (first | refine w_stepZ progOk rfl rfl rfl rfl rfl ?_ | refine w_step progOk rfl rfl rfl ?_ | refine w_nil ?_ | refine w_seq ?_ | refine w_reg progOk rfl rfl ?_ | (refine w_condP rfl (ht := fun h => ?_) (hf := fun h => ?_) <;> try exact prn) | refine w_block ?_ | refine w_skip ?_ | refine w_ret ?_ | refine w_index progOk rfl rfl rfl rfl rfl rfl rfl (map_get (by assumption)) rfl ?_ | refine w_call progOk rfl rfl rfl rfl rfl rfl hfr (hf r) rfl rfl ?_ | fail)
    · obtain ⟨q1, q2⟩ := fst_at hr hany h
      exact w_fin rfl (Sub.of_eq (by rw [q1, q2]))
    · refine w_next (i + 1) ⟨hlt, any_take_succ hr hany (by simpa using h)⟩ (by omega) [7] (sub_eq rfl rfl (sub_eq rfl rfl (sub_eq rfl rfl (sub_eq rfl rfl (sub_eq rfl ?_ sub_nil))))) rfl
      rw [wrap64 (by omega) (by omega)]; rfl
  · repeat' (first | refine w_step progOk rfl rfl rfl ?_ | refine w_nil ?_ | refine w_seq ?_ | refine w_reg progOk rfl rfl ?_ | (refine w_condP rfl (ht := fun h => ?_) (hf := fun h => ?_) <;> try exact prn) | refine w_exit ?_ | refine w_ret ?_ | fail)
    have ha := any_take_all (by omega) hany
    exact w_fin rfl (Sub.of_eq (by rw [fst_none ha, ha, hlm]))
theorem cloneSeen_ok (l : List Seen) (hl : l.length ≤ 1000000) : Ct Tryz.prog 101 [.t (.slice .any 3 (l.map encSeen))] [] (.t (.slice .any 3 (l.map encSeen))) [] := by
  refine ct0 progOk Tryz.func101 rfl false rfl rfl ?_
  have hlm : (l.map encSeen).length = l.length := List.length_map ..
  repeat' (first | refine w_stepZ progOk rfl rfl rfl rfl rfl ?_ | refine w_step progOk rfl rfl rfl ?_ | refine w_nil ?_ | refine w_seq ?_ | refine w_reg progOk rfl rfl ?_ | (refine w_condP rfl (ht := fun h => ?_) (hf := fun h => ?_) <;> try exact prn) | refine w_skip ?_ | refine w_ret ?_ | refine w_nilQ progOk rfl rfl rfl rfl rfl (fun _ => rfl) (fun b hb => ?_) | refine w_appE progOk rfl rfl rfl rfl rfl rfl rfl rfl rfl rfl rfl rfl rfl (by simp; omega) ?_ | fail)
  · refine w_fin rfl ?_
    have h0 := hb h
    rw [h0]; exact sub_slNil
  · refine w_fin rfl (Sub.of_eq ?_)
    simp [frzA]
    exact List.take_of_length_le (by simp)
theorem cloneRow_ok (l : List Row) (hl : l.length ≤ 1000000) : Ct Tryz.prog 99 [.t (.slice .any 5 (l.map encRow))] [] (.t (.slice .any 5 (l.map encRow))) [] := by
  refine ct0 progOk Tryz.func99 rfl false rfl rfl ?_
  have hlm : (l.map encRow).length = l.length := List.length_map ..
  repeat' (first | refine w_stepZ progOk rfl rfl rfl rfl rfl ?_ | refine w_step progOk rfl rfl rfl ?_ | refine w_nil ?_ | refine w_seq ?_ | refine w_reg progOk rfl rfl ?_ | (refine w_condP rfl (ht := fun h => ?_) (hf := fun h => ?_) <;> try exact prn) | refine w_skip ?_ | refine w_ret ?_ | refine w_nilQ progOk rfl rfl rfl rfl rfl (fun _ => rfl) (fun b hb => ?_) | refine w_appE progOk rfl rfl rfl rfl rfl rfl rfl rfl rfl rfl rfl rfl rfl (by simp; omega) ?_ | fail)
  · refine w_fin rfl ?_
    have h0 := hb h
    rw [h0]; exact sub_slNil
  · refine w_fin rfl (Sub.of_eq ?_)
    simp [frzA]
    exact List.take_of_length_le (by simp)
theorem cloneRecs_ok (l : List Rec) (hl : l.length ≤ 1000000) : Ct Tryz.prog 128 [.t (.slice .any 2 (l.map encRec))] [] (.t (.slice .any 2 (l.map encRec))) [] := by
  refine ct0 progOk Tryz.func128 rfl false rfl rfl ?_
  have hlm : (l.map encRec).length = l.length := List.length_map ..
  repeat' (first | refine w_stepZ progOk rfl rfl rfl rfl rfl ?_ | refine w_step progOk rfl rfl rfl ?_ | refine w_nil ?_ | refine w_seq ?_ | refine w_reg progOk rfl rfl ?_ | (refine w_condP rfl (ht := fun h => ?_) (hf := fun h => ?_) <;> try exact prn) | refine w_skip ?_ | refine w_ret ?_ | refine w_nilQ progOk rfl rfl rfl rfl rfl (fun _ => rfl) (fun b hb => ?_) | refine w_appE progOk rfl rfl rfl rfl rfl rfl rfl rfl rfl rfl rfl rfl rfl (by simp; omega) ?_ | fail)
  · refine w_fin rfl ?_
    have h0 := hb h
    rw [h0]; exact sub_slNil
  · refine w_fin rfl (Sub.of_eq ?_)
    simp [frzA]
    exact List.take_of_length_le (by simp)
theorem copied_ok (p : Prod) (h : p.seen.length ≤ 1000000) : Ct Tryz.prog 162 [.agg (liftT (encProd p))] [] (.agg (liftT (encProd p))) [] := by
  refine ct0 progOk Tryz.func162 rfl false rfl rfl ?_
  repeat' (first | refine w_stepZ progOk rfl rfl rfl rfl rfl ?_ | refine w_step progOk rfl rfl rfl ?_ | refine w_nil ?_ | refine w_seq ?_ | refine w_reg progOk rfl rfl ?_ | refine w_ret ?_ | refine w_call progOk rfl rfl rfl rfl rfl rfl rfl (cloneSeen_ok p.seen h) rfl rfl ?_ | fail)
  exact w_fin rfl (Sub.refl _)
def prodZ : Prod := ⟨0, 0, 0, []⟩
def findP (l : List Prod) (pid : Int) : Prod := (l.find? (fun p => decide (p.pid = pid))).getD prodZ
def hasP (l : List Prod) (pid : Int) : Bool := l.any (fun p => decide (p.pid = pid))
theorem findPid_ok (pid : Int) (p : Prod) : Ct Tryz.prog 161 (.agg (liftT (encProd p)) :: liftT [.ptr [.int .i64 pid]]) [] (.t (.bool (decide (p.pid = pid)))) [] := by
  refine ct0 progOk Tryz.func161 rfl false rfl rfl ?_
  repeat' (first | refine w_step progOk rfl rfl rfl ?_ | refine w_nil ?_ | refine w_seq ?_ | refine w_reg progOk rfl rfl ?_ | refine w_ret ?_ | fail)
  exact w_fin rfl (Sub.refl _)
theorem findP_ok (l : List Prod) (pid : Int) (hl : smallPs l) : Ct Tryz.prog 97 [.t (.slice .any 4 (l.map encProd)), .t (.int .i64 pid)] [] (.tuple [.agg (liftT (encProd (findP l pid))), .t (.bool (hasP l pid))]) [] := by
  obtain ⟨hl, hsm⟩ := hl
  have cf := firstProd_ok 161 [.ptr [.int .i64 pid]] (fun p => decide (p.pid = pid)) l (by omega) (findPid_ok pid) rfl
  refine ct0 progOk Tryz.func97 rfl false rfl rfl ?_
  refine w_seq ?_
  refine w_reg progOk rfl rfl ?_
  repeat' (first | refine w_step progOk rfl rfl rfl ?_ | refine w_nil ?_ | fail)
  refine Tr.freezeBox (cs := [.int .i64 pid]) 3 6 rfl rfl rfl rfl ?_
  cases hh : l.any (fun p => decide (p.pid = pid)) with
  | false =>
    rw [hh] at cf
    have hfp : findP l pid = prodZ := by
      have : l.find? (fun p => decide (p.pid = pid)) = none := by rw [List.find?_eq_none]; intro x hx; have := List.any_eq_false.1 hh x hx; simpa using this
      simp [findP, this]
    repeat' (first | refine w_stepZ progOk rfl rfl rfl rfl rfl ?_ | refine w_step progOk rfl rfl rfl ?_ | refine w_nil ?_ | refine w_seq ?_ | refine w_reg progOk rfl rfl ?_ | (refine w_condP rfl (ht := fun h => ?_) (hf := fun h => ?_) <;> try exact prn) | refine w_ret ?_ | refine w_call progOk rfl rfl rfl rfl rfl rfl rfl (cf) rfl rfl ?_ | fail)
    refine w_fin rfl ?_
    rw [hasP, hh, hfp]
    exact sub_tuple ⟨sub_agg ⟨Sub.refl _, Sub.refl _, Sub.refl _, sub_slNil, trivial⟩, Sub.refl _, trivial⟩
  | true =>
    rw [hh] at cf
    obtain ⟨i, x, hx, hi, hfx, _⟩ := fst_get hh
    have hfp : findP l pid = x := by simp [findP, hfx]
    have hsx := hsm x (List.mem_of_getElem? hx)
    repeat' (first | refine w_stepZ progOk rfl rfl rfl rfl rfl ?_ | refine w_step progOk rfl rfl rfl ?_ | refine w_nil ?_ | refine w_seq ?_ | refine w_reg progOk rfl rfl ?_ | (refine w_condP rfl (ht := fun h => ?_) (hf := fun h => ?_) <;> try exact prn) | refine w_skip ?_ | refine w_ret ?_ | refine w_indexE progOk rfl rfl rfl rfl rfl rfl rfl (by assumption) (map_get (by assumption)) rfl ?_ | refine w_call progOk rfl rfl rfl rfl rfl rfl rfl (cf) rfl rfl ?_ | refine w_call progOk rfl rfl rfl rfl rfl rfl rfl (copied_ok x hsx) rfl rfl ?_ | fail)
    refine w_fin rfl (Sub.of_eq ?_)
    rw [hasP, hh, hfp]; rfl
end Go.Proofs.YtpdmaenhenfofaaGreatDoor

namespace Go.Proofs.YtpdmaenhenfofaaGreatDoor
open Go.Am
attribute [local irreducible] Decidable.decide
set_option maxRecDepth 100000
set_option maxHeartbeats 1000000
theorem asSeqs_ok : AsOk 278 1 := fun pb po t n old w h1 h2 h3 h4 => (asSeqs pb po t n old w h1 h2 h3 h4).mono fun ev w' h => ⟨h.1, _, _, _, _, h.2⟩
theorem asRead_ok : AsOk 290 1 := fun pb po t n old w h1 h2 h3 h4 => (asRead pb po t n old w h1 h2 h3 h4).mono fun ev w' h => ⟨h.1, _, _, _, _, h.2⟩
theorem asCopying_ok : AsOk 310 1 := fun pb po t n old w h1 h2 h3 h4 => (asCopying pb po t n old w h1 h2 h3 h4).mono fun ev w' h => ⟨h.1, _, _, _, _, h.2⟩
theorem asEngine_ok : AsOk 97 1 := fun pb po t n old w h1 h2 h3 h4 => (asEngine pb po t n old w h1 h2 h3 h4).mono fun ev w' h => ⟨h.1, _, _, _, _, h.2⟩
theorem isRead_ok : IsOk 290 1 := fun pb po n k w h => by
  by_cases e : n = k
  · subst e; simp only [decide_true]; exact isReadT pb po n n w h rfl
  · simp only [e, decide_false]; exact isReadF pb po n k w h e
theorem isCopying_ok : IsOk 310 1 := fun pb po n k w h => by
  by_cases e : n = k
  · subst e; simp only [decide_true]; exact isCopyingT pb po n n w h rfl
  · simp only [e, decide_false]; exact isCopyingF pb po n k w h e
theorem scode_nil : Ct Tryz.prog 126 [.t .nilIface] [] (.t (.int .i64 0)) [] := by
  refine ct0 progOk Tryz.func126 rfl false rfl rfl ?_
  repeat' (first | refine w_step progOk rfl rfl rfl ?_ | refine w_nil ?_ | refine w_seq ?_ | refine w_reg progOk rfl rfl ?_ | (refine w_gTP rfl rfl rfl rfl rfl (ht := fun h => ?_) (hf := fun h => ?_) <;> try exact prn) | (refine w_condP rfl (ht := fun h => ?_) (hf := fun h => ?_) <;> try exact prn) | refine w_skip ?_ | refine w_ret ?_ | fail)
  exact w_fin rfl (Sub.of_eq rfl)
theorem scode_ok (i n : Int) : Ct Tryz.prog 126 [.t (.iface 278 (.ptr [.int .i64 i, .int .i64 n]))] [] (.t (.int .i64 n)) [] := by
  refine ct0 progOk Tryz.func126 rfl false rfl rfl ?_
  repeat' (first | refine w_step progOk rfl rfl rfl ?_ | refine w_nil ?_ | refine w_seq ?_ | refine w_reg progOk rfl rfl ?_ | (refine w_gTP rfl rfl rfl rfl rfl (ht := fun h => ?_) (hf := fun h => ?_) <;> try exact prn) | (refine w_condP rfl (ht := fun h => ?_) (hf := fun h => ?_) <;> try exact prn) | refine w_skip ?_ | refine w_ret ?_ | refine w_callR progOk [(6, 1)] [(1, 6)] rfl rfl rfl rfl rfl (as_ct asSeqs_ok [.int .i64 i, .int .i64 n] n 0 rfl) rfl rfl rfl rfl rfl ?_ | fail)
  exact w_fin rfl (Sub.of_eq rfl)
theorem rdcode_nil : Ct Tryz.prog 135 [.t .nilIface] [] (.t (.int .i64 0)) [] := by
  refine ct0 progOk Tryz.func135 rfl false rfl rfl ?_
  repeat' (first | refine w_step progOk rfl rfl rfl ?_ | refine w_nil ?_ | refine w_seq ?_ | refine w_reg progOk rfl rfl ?_ | (refine w_condP rfl (ht := fun h => ?_) (hf := fun h => ?_) <;> try exact prn) | refine w_block ?_ | refine w_ret ?_ | fail)
  exact w_fin rfl (Sub.of_eq rfl)
theorem rdcode_ok (s : Bs) (n : Int) : Ct Tryz.prog 135 [.t (faultT 290 s n)] [] (.t (.int .i64 n)) [] := by
  refine ct0 progOk Tryz.func135 rfl false rfl rfl ?_
  repeat' (first | refine w_step progOk rfl rfl rfl ?_ | refine w_nil ?_ | refine w_seq ?_ | refine w_reg progOk rfl rfl ?_ | (refine w_condP rfl (ht := fun h => ?_) (hf := fun h => ?_) <;> try exact prn) | refine w_block ?_ | refine w_ret ?_ | refine w_call progOk rfl rfl rfl rfl rfl rfl rfl (is_ct isRead_ok [.str s, .int .i64 n] n 130 rfl) rfl rfl ?_ | refine w_callR progOk [(6, 1)] [(1, 6)] rfl rfl rfl rfl rfl (as_ct asRead_ok [.str s, .int .i64 n] n 0 rfl) rfl rfl rfl rfl rfl ?_ | fail)
  all_goals (refine w_fin rfl (Sub.of_eq ?_); first | rfl | (rw [show n = 130 by omega]))
theorem cpcode_ok (s : Bs) (n : Int) : Ct Tryz.prog 157 [.t (faultT 310 s n)] [] (.t (.int .i64 n)) [] := by
  refine ct0 progOk Tryz.func157 rfl false rfl rfl ?_
  repeat' (first | refine w_step progOk rfl rfl rfl ?_ | refine w_nil ?_ | refine w_seq ?_ | refine w_reg progOk rfl rfl ?_ | (refine w_condP rfl (ht := fun h => ?_) (hf := fun h => ?_) <;> try exact prn) | refine w_block ?_ | refine w_ret ?_ | refine w_call progOk rfl rfl rfl rfl rfl rfl rfl (is_ct isCopying_ok [.str s, .int .i64 n] n 2 rfl) rfl rfl ?_ | refine w_callR progOk [(6, 1)] [(1, 6)] rfl rfl rfl rfl rfl (as_ct asCopying_ok [.str s, .int .i64 n] n 0 rfl) rfl rfl rfl rfl rfl ?_ | fail)
  all_goals (refine w_fin rfl (Sub.of_eq ?_); first | rfl | (rw [show n = 2 by omega]))
theorem encode_ok (s : Bs) (n : Int) : Ct Tryz.prog 39 [.t (faultT 97 s n)] [] (.t (.int .i64 n)) [] := by
  refine ct0 progOk Tryz.func39 rfl false rfl rfl ?_
  repeat' (first | refine w_step progOk rfl rfl rfl ?_ | refine w_nil ?_ | refine w_seq ?_ | refine w_reg progOk rfl rfl ?_ | (refine w_condP rfl (ht := fun h => ?_) (hf := fun h => ?_) <;> try exact prn) | refine w_block ?_ | refine w_ret ?_ | refine w_call progOk rfl rfl rfl rfl rfl rfl rfl (is_ct isEngine_ok [.str s, .int .i64 n] n 2 rfl) rfl rfl ?_ | refine w_callR progOk [(6, 1)] [(1, 6)] rfl rfl rfl rfl rfl (as_ct asEngine_ok [.str s, .int .i64 n] n 0 rfl) rfl rfl rfl rfl rfl ?_ | fail)
  all_goals (refine w_fin rfl (Sub.of_eq ?_); first | rfl | (rw [show n = 2 by omega]))
theorem rdCheck_ok (p : Part) (h1 : p.rows.length ≤ 1000000000) (h2 : p.opens.length ≤ 1000000000) : Ct Tryz.prog 92 [.agg (liftT (encPart p))] [] (.t (.int .i64 (if readOk p = true then 0 else 2))) [] := by
  refine ct0 progOk Tryz.func92 rfl false rfl rfl ?_
  have cc := rdcheck_ok p h1 h2
  unfold rdT at cc
  cases h : readOk p with
  | true =>
    simp only [h, if_true] at cc
    repeat' (first | refine w_step progOk rfl rfl rfl ?_ | refine w_nil ?_ | refine w_seq ?_ | refine w_reg progOk rfl rfl ?_ | refine w_ret ?_ | refine w_call progOk rfl rfl rfl rfl rfl rfl rfl (cc) rfl rfl ?_ | refine w_call progOk rfl rfl rfl rfl rfl rfl rfl (rdcode_nil) rfl rfl ?_ | fail)
    exact w_fin rfl (Sub.of_eq rfl)
  | false =>
    simp only [h, Bool.false_eq_true, if_false] at cc
    repeat' (first | refine w_step progOk rfl rfl rfl ?_ | refine w_nil ?_ | refine w_seq ?_ | refine w_reg progOk rfl rfl ?_ | refine w_ret ?_ | refine w_call progOk rfl rfl rfl rfl rfl rfl rfl (cc) rfl rfl ?_ | refine w_call progOk rfl rfl rfl rfl rfl rfl rfl (rdcode_ok _ _) rfl rfl ?_ | fail)
    exact w_fin rfl (Sub.of_eq rfl)
/- what a batch is -/
def sameS (b : Batch) (s : Seen) : Bool := decide (s.seq = b.seq ∧ s.count = (b.recs.length : Int))
def curP (l : List Prod) (b : Batch) : Prod := if hasP l b.pid = true ∧ b.epoch ≤ (findP l b.pid).epoch then findP l b.pid else prodZ
def fenced (l : List Prod) (b : Batch) : Bool := hasP l b.pid && decide (b.epoch < (findP l b.pid).epoch)
def chkBase (l : List Prod) (b : Batch) : Int := if (curP l b).seen.any (sameS b) = true then (((curP l b).seen.find? (sameS b)).map Seen.base).getD 0 else if b.seq = (curP l b).next then -1 else 0
def chkErr (l : List Prod) (b : Batch) : Int := if fenced l b = true then 100 else if (curP l b).seen.any (sameS b) = true then 0 else if b.seq = (curP l b).next then 0 else 101
def chkIs (l : List Prod) (b : Batch) : Bool := !fenced l b && (curP l b).seen.any (sameS b)
def refT (pid n : Int) : T := .iface 278 (.ptr [.int .i64 pid, .int .i64 n])
def chkT (l : List Prod) (b : Batch) : T := if chkErr l b = 0 then .nilIface else refT b.pid (chkErr l b)
theorem judgeS_ok (b : Batch) (s : Seen) : Ct Tryz.prog 174 (.agg (liftT (encSeen s)) :: liftT [.ptr (encBatch b)]) [] (.t (.bool (sameS b s))) [] := by
  refine ct0 progOk Tryz.func174 rfl false rfl rfl ?_
  have hlm : (b.recs.map encRec).length = b.recs.length := List.length_map ..
  repeat' (first | refine w_step progOk rfl rfl rfl ?_ | refine w_nil ?_ | refine w_seq ?_ | refine w_reg progOk rfl rfl ?_ | (refine w_gTP rfl rfl rfl rfl rfl (ht := fun h => ?_) (hf := fun h => ?_) <;> try exact prn) | refine w_ret ?_ | fail)
  all_goals (refine w_fin rfl (subB ?_); simp_all [sameS]; try rfl)
theorem judge_ok (l : List Prod) (b : Batch) (hl : smallPs l) (hb : b.recs.length ≤ 1000000000) : Ct Tryz.prog 125 [.t (.slice .any 4 (l.map encProd)), .agg (liftT (encBatch b))] [] (.tuple [.t (.int .i64 (if fenced l b = true then 0 else chkBase l b)), .t (.bool (chkIs l b)), .t (chkT l b)]) [] := by
  have cfind := findP_ok l b.pid hl
  have hlm : (b.recs.map encRec).length = b.recs.length := List.length_map ..
  have hsm : (findP l b.pid).seen.length ≤ 1000000 := by
    unfold findP
    cases hf : l.find? (fun p => decide (p.pid = b.pid)) with
    | none => simp [prodZ]
    | some x => simpa using hl.2 x (List.mem_of_find?_eq_some hf)
  have cf := fun (p : Prod) (h : p.seen.length ≤ 1000000) => firstSeen_ok 174 [.ptr (encBatch b)] (sameS b) p.seen (by omega) (judgeS_ok b) rfl
  have c0 : Ct Tryz.prog 175 [.t (.slice .any 3 []), .t (.func (.func 174) [] [.ptr (encBatch b)])] [] (.tuple [.t (.int .i64 0), .t (.bool false)]) [] := firstSeen_ok 174 [.ptr (encBatch b)] (sameS b) [] (by simp) (judgeS_ok b) rfl
  have hz0 : prodZ.seen.any (sameS b) = false := rfl
  refine ct0 progOk Tryz.func125 rfl false rfl rfl ?_
  refine w_seq ?_
  refine w_reg progOk rfl rfl ?_
  repeat' (first | refine w_step progOk rfl rfl rfl ?_ | refine w_nil ?_ | fail)
  refine Tr.freezeBox (cs := encBatch b) 3 6 rfl rfl rfl rfl ?_
  cases hk : hasP l b.pid with
  | false =>
    rw [hk] at cfind
    have hcur : curP l b = prodZ := by simp [curP, hk]
    have hfen : fenced l b = false := by simp [fenced, hk]
    repeat' (first | refine w_stepZ progOk rfl rfl rfl rfl rfl ?_ | refine w_step progOk rfl rfl rfl ?_ | refine w_nil ?_ | refine w_seq ?_ | refine w_reg progOk rfl rfl ?_ | (refine w_gTP rfl rfl rfl rfl rfl (ht := fun h => ?_) (hf := fun h => ?_) <;> try exact prn) | (refine w_gFP rfl rfl rfl rfl rfl (ht := fun h => ?_) (hf := fun h => ?_) <;> try exact prn) | (refine w_condP rfl (ht := fun h => ?_) (hf := fun h => ?_) <;> try exact prn) | refine w_block ?_ | refine w_skip ?_ | refine w_exit ?_ | refine w_ret ?_ | refine w_regD (id := 11) (m := 7) progOk (by kernel_rfl) rfl rfl rfl rfl ?_ | refine s_step rfl rfl rfl rfl ?_ | refine w_call progOk rfl rfl rfl rfl rfl rfl rfl (cfind) rfl rfl ?_ | refine w_callZ progOk rfl rfl rfl rfl (c0) rfl rfl rfl ⟨sub_slNil, Sub.refl _, trivial⟩ ?_ | fail)
    all_goals (refine w_fin rfl (Sub.of_eq ?_); simp_all [chkIs, chkT, chkErr, chkBase, prodZ, refT])
  | true =>
    rw [hk] at cfind
    generalize hp : findP l b.pid = p at cfind hsm
    have cfp := cf p hsm
    have hno : fenced l b = decide (b.epoch < p.epoch) := by simp [fenced, hk, hp]
    by_cases hlt : b.epoch < p.epoch
    · have hfen : fenced l b = true := by simp [hno, hlt]
      repeat' (first | refine w_stepZ progOk rfl rfl rfl rfl rfl ?_ | refine w_step progOk rfl rfl rfl ?_ | refine w_nil ?_ | refine w_seq ?_ | refine w_reg progOk rfl rfl ?_ | (refine w_gTP rfl rfl rfl rfl rfl (ht := fun h => ?_) (hf := fun h => ?_) <;> try exact prn) | (refine w_condP rfl (ht := fun h => ?_) (hf := fun h => ?_) <;> try exact prn) | refine w_block ?_ | refine w_exit ?_ | refine w_ret ?_ | refine w_regD (id := 4) (m := 7) progOk (by kernel_rfl) rfl rfl rfl rfl ?_ | refine s_step rfl rfl rfl rfl ?_ | refine w_call progOk rfl rfl rfl rfl rfl rfl rfl (cfind) rfl rfl ?_ | fail)
      all_goals (refine w_fin rfl (Sub.of_eq ?_); simp [chkIs, chkT, chkErr, hfen, refT])
    · have hfen : fenced l b = false := by simp [hno, hlt]
      by_cases hgt : p.epoch < b.epoch
      · have hcur : curP l b = prodZ := by simp [curP, hk, hp]; omega
        repeat' (first | refine w_stepZ progOk rfl rfl rfl rfl rfl ?_ | refine w_step progOk rfl rfl rfl ?_ | refine w_nil ?_ | refine w_seq ?_ | refine w_reg progOk rfl rfl ?_ | (refine w_gTP rfl rfl rfl rfl rfl (ht := fun h => ?_) (hf := fun h => ?_) <;> try exact prn) | (refine w_gFP rfl rfl rfl rfl rfl (ht := fun h => ?_) (hf := fun h => ?_) <;> try exact prn) | (refine w_condP rfl (ht := fun h => ?_) (hf := fun h => ?_) <;> try exact prn) | refine w_block ?_ | refine w_skip ?_ | refine w_exit ?_ | refine w_ret ?_ | refine w_regD (id := 11) (m := 7) progOk (by kernel_rfl) rfl rfl rfl rfl ?_ | refine s_step rfl rfl rfl rfl ?_ | refine w_call progOk rfl rfl rfl rfl rfl rfl rfl (cfind) rfl rfl ?_ | refine w_callZ progOk rfl rfl rfl rfl (c0) rfl rfl rfl ⟨sub_slNil, Sub.refl _, trivial⟩ ?_ | fail)
        all_goals (refine w_fin rfl (Sub.of_eq ?_); simp_all [chkIs, chkT, chkErr, chkBase, prodZ, refT])
      · have hcur : curP l b = p := by simp [curP, hk, hp]; omega
        cases hany : p.seen.any (sameS b) with
        | false =>
          rw [hany] at cfp
          repeat' (first | refine w_stepZ progOk rfl rfl rfl rfl rfl ?_ | refine w_step progOk rfl rfl rfl ?_ | refine w_nil ?_ | refine w_seq ?_ | refine w_reg progOk rfl rfl ?_ | (refine w_gTP rfl rfl rfl rfl rfl (ht := fun h => ?_) (hf := fun h => ?_) <;> try exact prn) | (refine w_gFP rfl rfl rfl rfl rfl (ht := fun h => ?_) (hf := fun h => ?_) <;> try exact prn) | (refine w_condP rfl (ht := fun h => ?_) (hf := fun h => ?_) <;> try exact prn) | refine w_block ?_ | refine w_skip ?_ | refine w_exit ?_ | refine w_ret ?_ | refine w_regD (id := 11) (m := 7) progOk (by kernel_rfl) rfl rfl rfl rfl ?_ | refine s_step rfl rfl rfl rfl ?_ | refine w_call progOk rfl rfl rfl rfl rfl rfl rfl (cfind) rfl rfl ?_ | refine w_call progOk rfl rfl rfl rfl rfl rfl rfl (cfp) rfl rfl ?_ | fail)
          all_goals (refine w_fin rfl (Sub.of_eq ?_); simp_all [chkIs, chkT, chkErr, chkBase, refT])
        | true =>
          rw [hany] at cfp
          obtain ⟨i, x, hx, hi, hfx, _⟩ := fst_get hany
          repeat' (first | refine w_stepZ progOk rfl rfl rfl rfl rfl ?_ | refine w_step progOk rfl rfl rfl ?_ | refine w_nil ?_ | refine w_seq ?_ | refine w_reg progOk rfl rfl ?_ | (refine w_gTP rfl rfl rfl rfl rfl (ht := fun h => ?_) (hf := fun h => ?_) <;> try exact prn) | (refine w_gFP rfl rfl rfl rfl rfl (ht := fun h => ?_) (hf := fun h => ?_) <;> try exact prn) | (refine w_condP rfl (ht := fun h => ?_) (hf := fun h => ?_) <;> try exact prn) | refine w_block ?_ | refine w_skip ?_ | refine w_exit ?_ | refine w_ret ?_ | refine w_indexE progOk rfl rfl rfl rfl rfl rfl rfl (by assumption) (map_get (by assumption)) rfl ?_ | refine w_call progOk rfl rfl rfl rfl rfl rfl rfl (cfind) rfl rfl ?_ | refine w_call progOk rfl rfl rfl rfl rfl rfl rfl (cfp) rfl rfl ?_ | fail)
          all_goals (refine w_fin rfl (Sub.of_eq ?_); simp_all [chkIs, chkT, chkErr, chkBase, refT])
end Go.Proofs.YtpdmaenhenfofaaGreatDoor
