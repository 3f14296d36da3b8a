/- Contracts and laws, joined: La, Lb, Qo, Qp, Qr, Qs, Lc. No condition beside those that each theorem names. -/
import Derived.Test.YtpdmaenhenfofaaGreatDoorZM10
import Derived.Test.YtpdmaenhenfofaaGreatDoorZJ10
import Derived.Test.YtpdmaenhenfofaaGreatDoorZM11
set_option linter.unusedVariables false
set_option linter.unusedSimpArgs false
namespace Go.Proofs.YtpdmaenhenfofaaGreatDoor
open Go.Am
attribute [local irreducible] Decidable.decide
set_option maxRecDepth 100000
set_option maxHeartbeats 1000000
/- lists whose keys rise -/
def Srt {α : Type} (f : α → Int) (l : List α) : Prop := l.Pairwise (fun x y => f x < f y)
def insF {α : Type} (f : α → Int) (x : α) (l : List α) : List α := l.filter (fun y => decide (f y < f x)) ++ x :: l.filter (fun y => decide (f x < f y))
theorem srt_iff {α : Type} {f : α → Int} {l : List α} : Srt f l ↔ (l.map f).Pairwise (· < ·) := by rw [List.pairwise_map]; rfl
theorem srt_ext {α : Type} {f : α → Int} : ∀ {l m : List α}, Srt f l → Srt f m → (∀ x, x ∈ l ↔ x ∈ m) → l = m
  | [], [], _, _, _ => rfl
  | [], y :: m, _, _, h => by have := (h y).2 (by simp); simp at this
  | x :: l, [], _, _, h => by have := (h x).1 (by simp); simp at this
  | x :: l, y :: m, hl, hm, h => by
    have hl' := List.pairwise_cons.1 hl
    have hm' := List.pairwise_cons.1 hm
    have e : x = y := by
      have h1 := (h x).1 (by simp)
      have h2 := (h y).2 (by simp)
      rcases List.mem_cons.1 h1 with e | h1
      · exact e
      rcases List.mem_cons.1 h2 with e | h2
      · exact e.symm
      have := hl'.1 y h2; have := hm'.1 x h1; omega
    subst e
    congr 1
    refine srt_ext hl'.2 hm'.2 fun z => ⟨fun hz => ?_, fun hz => ?_⟩
    · have hlt := hl'.1 z hz
      rcases List.mem_cons.1 ((h z).1 (by simp [hz])) with e | h1
      · subst e; omega
      · exact h1
    · have hlt := hm'.1 z hz
      rcases List.mem_cons.1 ((h z).2 (by simp [hz])) with e | h1
      · subst e; omega
      · exact h1
theorem srt_key {α : Type} {f : α → Int} : ∀ {l : List α}, Srt f l → ∀ {x y : α}, x ∈ l → y ∈ l → f x = f y → x = y
  | z :: l, h, x, y, hx, hy, e => by
    have h' := List.pairwise_cons.1 h
    rcases List.mem_cons.1 hx with e1 | h1 <;> rcases List.mem_cons.1 hy with e2 | h2
    · rw [e1, e2]
    · subst e1; have := h'.1 y h2; omega
    · subst e2; have := h'.1 x h1; omega
    · exact srt_key h'.2 h1 h2 e
theorem find_srt {α : Type} {f : α → Int} {l : List α} (h : Srt f l) {k : Int} {x : α} (hx : x ∈ l) (hk : f x = k) : l.find? (fun y => decide (f y = k)) = some x := by
  cases hf : l.find? (fun y => decide (f y = k)) with
  | none => have := List.find?_eq_none.1 hf x hx; simp [hk] at this
  | some y =>
    have h1 := List.find?_some hf
    have h2 := List.mem_of_find?_eq_some hf
    rw [srt_key h h2 hx (by simpa [hk] using h1)]
theorem find_no {α : Type} {f : α → Int} {l : List α} {k : Int} (h : ∀ x ∈ l, f x ≠ k) : l.find? (fun y => decide (f y = k)) = none := by
  rw [List.find?_eq_none]; intro x hx; simpa using h x hx
theorem mem_insF {α : Type} {f : α → Int} {x z : α} {l : List α} : z ∈ insF f x l ↔ z = x ∨ (z ∈ l ∧ f z ≠ f x) := by
  simp only [insF, List.mem_append, List.mem_cons, List.mem_filter, decide_eq_true_eq]
  constructor
  · rintro (⟨h1, h2⟩ | rfl | ⟨h1, h2⟩)
    · exact .inr ⟨h1, by omega⟩
    · exact .inl rfl
    · exact .inr ⟨h1, by omega⟩
  · rintro (rfl | ⟨h1, h2⟩)
    · exact .inr (.inl rfl)
    · rcases Int.lt_or_gt_of_ne h2 with h3 | h3
      · exact .inl ⟨h1, h3⟩
      · exact .inr (.inr ⟨h1, h3⟩)
theorem srt_insF {α : Type} {f : α → Int} {x : α} {l : List α} (h : Srt f l) : Srt f (insF f x l) := by
  unfold insF Srt
  rw [List.pairwise_append, List.pairwise_cons]
  refine ⟨h.filter _, ⟨fun y hy => by simpa using (List.mem_filter.1 hy).2, h.filter _⟩, fun a ha b hb => ?_⟩
  have h1 : f a < f x := by simpa using (List.mem_filter.1 ha).2
  rcases List.mem_cons.1 hb with rfl | hb
  · exact h1
  · have h2 : f x < f b := by simpa using (List.mem_filter.1 hb).2
    omega
theorem find_insF {α : Type} {f : α → Int} {x : α} {l : List α} (h : Srt f l) (k : Int) : (insF f x l).find? (fun y => decide (f y = k)) = if f x = k then some x else l.find? (fun y => decide (f y = k)) := by
  have hs := srt_insF (x := x) h
  split
  · rename_i e; exact find_srt hs (mem_insF.2 (.inl rfl)) e
  · rename_i e
    cases hf : l.find? (fun y => decide (f y = k)) with
    | none =>
      refine find_no fun z hz => ?_
      rcases mem_insF.1 hz with rfl | ⟨h1, h2⟩
      · exact e
      · have := List.find?_eq_none.1 hf z h1; simpa using this
    | some y =>
      have h1 : f y = k := by simpa using List.find?_some hf
      exact find_srt hs (mem_insF.2 (.inr ⟨List.mem_of_find?_eq_some hf, by omega⟩)) h1
theorem filter_split {α : Type} {f : α → Int} {k : Int} {a b : List α} (ha : ∀ x ∈ a, f x < k) (hb : ∀ x ∈ b, k ≤ f x) : (a ++ b).filter (fun y => decide (f y < k)) = a ∧ (a ++ b).filter (fun y => decide (k < f y)) = b.filter (fun y => decide (k < f y)) := by
  constructor
  · rw [List.filter_append, List.filter_eq_self.2 (fun x hx => by simpa using ha x hx), List.filter_eq_nil_iff.2 (fun x hx => by have := hb x hx; simp; omega), List.append_nil]
  · rw [List.filter_append, List.filter_eq_nil_iff.2 (fun x hx => by have := ha x hx; simp; omega), List.nil_append]
theorem take_lt {α : Type} {f : α → Int} {l : List α} {k : Int} {i : Nat} (h : l.findIdx? (fun y => decide (f y ≥ k)) = some i) : (∀ y ∈ l.take i, f y < k) ∧ ∃ x, l[i]? = some x ∧ k ≤ f x := by
  obtain ⟨hlt, h1, h2⟩ := List.findIdx?_eq_some_iff_getElem.1 h
  refine ⟨fun y hy => ?_, l[i], List.getElem?_eq_getElem hlt, by simpa using h1⟩
  obtain ⟨j, hj, rfl⟩ := List.mem_take_iff_getElem.1 hy
  have := h2 j (by omega)
  simp at this; omega
theorem setS_ins {l : List Prod} (h : Srt Prod.pid l) (p : Prod) : setS l p = insF Prod.pid p l := by
  unfold setS
  cases hf : l.findIdx? (fun x => decide (x.pid ≥ p.pid)) with
  | none =>
    have hn : ∀ x ∈ l, x.pid < p.pid := fun x hx => by have := List.findIdx?_eq_none_iff.1 hf x hx; simp at this; omega
    simp only [putS, List.take_length, List.drop_length, insF]
    rw [List.filter_eq_self.2 (fun x hx => by simpa using hn x hx), List.filter_eq_nil_iff.2 (fun x hx => by have := hn x hx; simp; omega)]
  | some i =>
    obtain ⟨h1, x, hx, h2⟩ := take_lt hf
    have hd := drop_cons hx
    have hsp : l = l.take i ++ l.drop i := (List.take_append_drop i l).symm
    have hs2 : Srt Prod.pid (x :: l.drop (i + 1)) := by rw [← hd]; exact List.Pairwise.sublist (List.drop_sublist i l) h
    have hs3 := (List.pairwise_cons.1 hs2).1
    have hb : ∀ y ∈ l.drop i, p.pid ≤ y.pid := fun y hy => by
      rw [hd] at hy
      rcases List.mem_cons.1 hy with rfl | hy
      · exact h2
      · have := hs3 y hy; omega
    obtain ⟨q1, q2⟩ := filter_split (f := Prod.pid) h1 hb
    rw [← hsp] at q1 q2
    have hall : (l.drop (i + 1)).filter (fun y => decide (p.pid < y.pid)) = l.drop (i + 1) := List.filter_eq_self.2 fun y hy => by have := hs3 y hy; simp; omega
    simp only [hx, Option.map_some, Option.some.injEq, putS, insF]
    rw [q1, q2, hd, List.filter_cons, hall]
    by_cases e : x.pid = p.pid
    · have : ¬ p.pid < x.pid := by omega
      simp [e]
    · have : p.pid < x.pid := by omega
      simp [e, this]
theorem mayFrom_iff : ∀ {l : List Prod} {n : Int}, mayFrom n l = true ↔ (∀ p ∈ l, n < p.pid) ∧ Srt Prod.pid l ∧ ∀ p ∈ l, knownP p = true
  | [], n => by simp [mayFrom, Srt]
  | p :: r, n => by
    simp only [mayFrom, Bool.and_eq_true, decide_eq_true_eq, mayFrom_iff (l := r), List.mem_cons, Srt, List.pairwise_cons]
    constructor
    · rintro ⟨⟨h1, h2⟩, h3, h4, h5⟩
      exact ⟨fun q hq => hq.elim (fun e => e ▸ h1) (fun hq => by have := h3 q hq; omega), ⟨h3, h4⟩, fun q hq => hq.elim (fun e => e ▸ h2) (h5 q)⟩
    · rintro ⟨h1, ⟨h3, h4⟩, h5⟩
      exact ⟨⟨h1 p (.inl rfl), h5 p (.inl rfl)⟩, h3, h4, fun q hq => h5 q (.inr hq)⟩
theorem known_bounds {p : Prod} (h : knownP p = true) : boundsP p := by simp only [knownP, Bool.and_eq_true, decide_eq_true_eq] at h; exact h.1
theorem mayPs_iff {l : List Prod} : mayPs l = true ↔ Srt Prod.pid l ∧ ∀ p ∈ l, knownP p = true := by
  unfold mayPs
  rw [mayFrom_iff]
  exact ⟨fun h => h.2, fun h => ⟨fun p hp => by have := known_bounds (h.2 p hp); unfold boundsP at this; omega, h⟩⟩
theorem mayPs_set {l : List Prod} {p : Prod} (h : mayPs l = true) (hp : knownP p = true) : mayPs (setS l p) = true := by
  obtain ⟨h1, h2⟩ := mayPs_iff.1 h
  rw [setS_ins h1]
  refine mayPs_iff.2 ⟨srt_insF h1, fun q hq => ?_⟩
  rcases mem_insF.1 hq with rfl | ⟨h3, _⟩
  · exact hp
  · exact h2 q h3
theorem findP_set {l : List Prod} {p : Prod} (h : mayPs l = true) (k : Int) : findP (setS l p) k = if p.pid = k then p else findP l k := by
  unfold findP
  rw [setS_ins (mayPs_iff.1 h).1, find_insF (mayPs_iff.1 h).1]
  split <;> rfl
theorem hasP_find {l : List Prod} {k : Int} : hasP l k = (l.find? (fun p => decide (p.pid = k))).isSome := by
  unfold hasP; rw [Bool.eq_iff_iff, List.find?_isSome, List.any_eq_true]
theorem hasP_set {l : List Prod} {p : Prod} (h : mayPs l = true) (k : Int) : hasP (setS l p) k = (decide (p.pid = k) || hasP l k) := by
  rw [hasP_find, hasP_find, setS_ins (mayPs_iff.1 h).1, find_insF (mayPs_iff.1 h).1]
  split <;> simp [*]
theorem hasP_get {l : List Prod} {k : Int} (h : hasP l k = true) : findP l k ∈ l ∧ (findP l k).pid = k := by
  rw [hasP_find] at h
  obtain ⟨x, hx⟩ := Option.isSome_iff_exists.1 h
  have h1 : findP l k = x := by simp [findP, hx]
  rw [h1]
  exact ⟨List.mem_of_find?_eq_some hx, by simpa using List.find?_some hx⟩
theorem hasP_not {l : List Prod} {k : Int} (h : hasP l k = false) : findP l k = prodZ := by
  rw [hasP_find] at h
  have : l.find? (fun p => decide (p.pid = k)) = none := by simpa using h
  simp [findP, this]
/- what is taken may be known -/
theorem behind_snoc {s : Seen} {n : Int} : ∀ {r : List Seen}, behindOf n (r ++ [s]) = behindOf s.seq r
  | [] => rfl
  | _ :: _ => rfl
theorem chain_snoc {s : Seen} {n : Int} (hs : okSeen s) (hn : n = s.seq + s.count) : ∀ {l : List Seen}, chainOk s.seq l = true → chainOk n (l ++ [s]) = true
  | [], _ => by simp [chainOk, behindOf, hs, hn]
  | a :: r, h => by
    simp only [chainOk, Bool.and_eq_true, decide_eq_true_eq, List.cons_append] at h ⊢
    exact ⟨by rw [behind_snoc]; exact h.1, chain_snoc hs hn h.2⟩
theorem chain_dropT {n : Int} {l : List Seen} (k : Nat) (h : chainOk n l = true) : chainOk n (l.drop k) = true := by
  cases hc : chainOk n (l.drop k) with
  | true => rfl
  | false => rw [chain_drop hc] at h; cases h
theorem seen_ok {b : Batch} (hb : mayBatch b = true) {base : Int} (h : -1 ≤ base ∧ base ≤ 1048576) : okSeen ⟨b.seq, b.recs.length, base⟩ := by
  have := may_bounds hb
  unfold okSeen; simp only; omega
theorem boundsB_of {b : Batch} (hb : mayBatch b = true) : boundsB b := by simp only [mayBatch, Bool.and_eq_true, decide_eq_true_eq] at hb; exact hb.1
/- what Check says of a valid list and a valid batch -/
theorem ck_of {l : List Prod} {b : Batch} (hl : mayPs l = true) (hb : mayBatch b = true) : ckErr l b = chkErr l b ∧ ckIs l b = chkIs l b := by
  simp [ckErr, ckIs, ckOk, hl, hb]
theorem kept_chain {l : List Prod} {b : Batch} (hl : mayPs l = true) (hb : mayBatch b = true) (hc : ckErr l b = 0) (hi : ckIs l b = false) : chainOk b.seq (keptS l b) = true := by
  obtain ⟨h1, h2⟩ := ck_of hl hb
  rw [h1] at hc; rw [h2] at hi
  unfold keptS
  split
  · rfl
  · rename_i he
    have he : (findP l b.pid).epoch = b.epoch := Classical.not_not.1 he
    cases hh : hasP l b.pid with
    | false => rw [hasP_not hh]; rfl
    | true =>
      obtain ⟨h3, _⟩ := hasP_get hh
      have hk := (mayPs_iff.1 hl).2 _ h3
      have hcur : curP l b = findP l b.pid := by simp [curP, hh, he]
      have hf : fenced l b = false := by simp [fenced, hh, he]
      have ha : (curP l b).seen.any (sameS b) = false := by simpa [chkIs, hf] using hi
      have hn : b.seq = (curP l b).next := by
        unfold chkErr at hc
        rw [hf, ha] at hc
        simp at hc
        exact hc
      rw [hcur] at hn
      simp only [knownP, Bool.and_eq_true] at hk
      rw [hn]; exact hk.2
theorem known_taken {l : List Prod} {b : Batch} {base : Int} (hl : mayPs l = true) (hb : mayBatch b = true) (hc : ckErr l b = 0) (hi : ckIs l b = false) (hbase : -1 ≤ base ∧ base ≤ 1048576) : knownP (takenP l b base) = true := by
  have hm := may_bounds hb
  have hbb := boundsB_of hb
  unfold boundsB at hbb
  have hlen : (takenP l b base).seen.length ≤ 3 := by simp only [takenP, winS, List.length_drop]; omega
  have hbd : boundsP (takenP l b base) := by
    refine ⟨hbb.1, hbb.2.1, hbb.2.2.1, hbb.2.2.2.1, ?_, ?_, by omega⟩ <;> simp only [takenP, behindB] <;> omega
  have hch : chainOk (behindB b) (winS (keptS l b ++ [⟨b.seq, b.recs.length, base⟩])) = true :=
    chain_dropT _ (chain_snoc (seen_ok hb hbase) rfl (kept_chain hl hb hc hi))
  simp only [knownP, hbd, decide_true, Bool.true_and]
  exact hch
theorem tkErr_ok {l : List Prod} {b : Batch} {base : Int} (hc : ckErr l b = 0) (hi : ckIs l b = false) (hbase : -1 ≤ base ∧ base ≤ 1048576) : tkErr l b base = 0 := by
  unfold tkErr; rw [if_neg (by omega), if_neg (by omega), hi]; simp
theorem tkRes_ok {l : List Prod} {b : Batch} {base : Int} (hc : ckErr l b = 0) (hi : ckIs l b = false) (hbase : -1 ≤ base ∧ base ≤ 1048576) : tkRes l b base = setS l (takenP l b base) := by
  unfold tkRes; rw [tkErr_ok hc hi hbase]; simp
theorem mayPs_taken {l : List Prod} {b : Batch} {base : Int} (hl : mayPs l = true) (hb : mayBatch b = true) (hc : ckErr l b = 0) (hi : ckIs l b = false) (hbase : -1 ≤ base ∧ base ≤ 1048576) : mayPs (tkRes l b base) = true := by
  rw [tkRes_ok hc hi hbase]; exact mayPs_set hl (known_taken hl hb hc hi hbase)
end Go.Proofs.YtpdmaenhenfofaaGreatDoor

namespace Go.Proofs.YtpdmaenhenfofaaGreatDoor
open Go.Am
attribute [local irreducible] Decidable.decide
set_option maxRecDepth 100000
set_option maxHeartbeats 1000000
def plainP (p : Part) (b : Batch) : Part := { p with fin := p.fin + b.recs.length, rows := p.rows ++ rowsOf b p.fin, prods := tkRes p.prods b p.fin }
def openOf (l : List Opn) (b : Batch) : Opn := match l.find? (fun o => decide (o.pid = b.pid)) with
  | some o => { o with batches := o.batches ++ [b] }
  | none => ⟨b.pid, b.epoch, [b]⟩
def txnP (p : Part) (b : Batch) : Part := { p with opens := insF Opn.pid (openOf p.opens b) p.opens, prods := tkRes p.prods b (-1) }
def partZ : Part := ⟨0, 0, [], [], []⟩
theorem openOf_pid {l : List Opn} {b : Batch} : (openOf l b).pid = b.pid := by
  unfold openOf
  split
  · rename_i o h; simpa using List.find?_some h
  · rfl
def OpenOk (ps : List Prod) (o : Opn) : Prop := copyOk o = true ∧ hasP ps o.pid = true ∧ (findP ps o.pid).epoch = o.epoch ∧ (findP ps o.pid).next = lastB o.batches
structure POk (p : Part) : Prop where
  b0 : 0 ≤ p.start
  b1 : p.start ≤ p.fin
  b2 : p.fin ≤ 1048576
  srt : Srt Row.offset p.rows
  rin : ∀ r ∈ p.rows, p.start ≤ r.offset ∧ r.offset < p.fin
  osrt : Srt Opn.pid p.opens
  rok : ∀ r ∈ p.rows, rowBad r = false
  may : mayPs p.prods = true
  ook : ∀ o ∈ p.opens, OpenOk p.prods o
theorem copyOk_len {o : Opn} (h : copyOk o = true) : 1 ≤ o.batches.length ∧ o.batches.length ≤ 8 := by
  simp only [copyOk, Bool.and_eq_true, decide_eq_true_eq] at h; exact h.1
theorem partOk_iff {p : Part} : partOk p = true ↔ POk p := by
  simp only [partOk, headOk3, readOk, Bool.and_eq_true, decide_eq_true_eq, Bool.not_eq_true', rises, List.all_eq_true, List.any_eq_false, openOk, rowIn]
  constructor
  · rintro ⟨⟨⟨⟨h0, h1, h2⟩, h3, h4, h5, h6⟩, h7, h8⟩, h9⟩
    exact ⟨h0, h1, h2, srt_iff.2 h3, h4, srt_iff.2 h5, fun r hr => by simpa using h7 r hr, h8, fun o ho => h9 o ho⟩
  · rintro ⟨h0, h1, h2, h3, h4, h5, h7, h8, h9⟩
    refine ⟨⟨⟨⟨h0, h1, h2⟩, srt_iff.1 h3, h4, srt_iff.1 h5, fun o ho => ?_⟩, fun r hr => by simpa using h7 r hr, h8⟩, fun o ho => h9 o ho⟩
    have := (copyOk_len (h9 o ho).1).1
    intro he
    rw [List.isEmpty_iff] at he
    simp [he] at this
theorem rows_get {b : Batch} {off : Int} {r : Row} (h : r ∈ rowsOf b off) : ∃ (i : Nat) (x : Rec), b.recs[i]? = some x ∧ r = rowOf b off i x := by
  obtain ⟨i, hi, rfl⟩ := List.mem_iff_getElem.1 h
  simp only [rowsOf, List.length_mapIdx] at hi
  exact ⟨i, b.recs[i], List.getElem?_eq_getElem hi, by simp [rowsOf]⟩
theorem rows_len {b : Batch} {off : Int} : (rowsOf b off).length = b.recs.length := by simp [rowsOf]
theorem rows_srt {b : Batch} {off : Int} (h : 0 ≤ off) : Srt Row.offset (rowsOf b off) := by
  unfold Srt
  rw [List.pairwise_iff_getElem]
  intro i j hi hj hij
  have h1 : ∀ k (hk : k < (rowsOf b off).length), ((rowsOf b off)[k]'hk).offset = off + k := fun k hk => by
    simp only [rowsOf, List.getElem_mapIdx, rowOf]; rw [if_neg (by omega)]
  rw [h1 i hi, h1 j hj]; omega
theorem rows_ok {b : Batch} (hb : mayBatch b = true) {off : Int} {r : Row} (h : r ∈ rowsOf b off) : rowBad r = false := by
  obtain ⟨i, x, hx, rfl⟩ := rows_get h
  have hm := may_bounds hb
  have hbb := boundsB_of hb
  unfold boundsB at hbb
  have hlt := (List.getElem?_eq_some_iff.1 hx).1
  have hr : okRec x = true := by
    simp only [mayBatch, Bool.and_eq_true] at hb
    exact List.all_eq_true.1 hb.2 x (List.mem_of_getElem? hx)
  simp only [okRec, Bool.and_eq_true, decide_eq_true_eq] at hr
  simp only [rowBad, rowOf]
  refine decide_eq_false ?_
  omega
theorem refO_none {p : Part} {b : Batch} (h : refO p b = none) : (∀ o ∈ p.opens, o.pid ≠ b.pid) ∨ b.txn = true := by
  unfold refO at h
  cases hf : p.opens.find? (fun o => decide (o.pid = b.pid)) with
  | none => exact .inl fun o ho => by simpa using List.find?_eq_none.1 hf o ho
  | some o =>
    rw [hf] at h
    simp only at h
    cases ht : b.txn with
    | true => exact .inr rfl
    | false => rw [ht] at h; simp at h
theorem refO_txn {p : Part} {b : Batch} (h : refO p b = none) {o : Opn} (hf : p.opens.find? (fun o => decide (o.pid = b.pid)) = some o) : b.txn = true ∧ o.epoch = b.epoch ∧ o.batches.length < 8 := by
  unfold refO at h
  rw [hf] at h
  simp only at h
  cases ht : b.txn with
  | false => rw [ht] at h; simp at h
  | true =>
    rw [ht] at h
    refine ⟨rfl, ?_, ?_⟩
    · rcases Decidable.em (o.epoch = b.epoch) with e | e
      · exact e
      · simp [e] at h
    · rcases Nat.lt_or_ge o.batches.length 8 with e | e
      · exact e
      · simp [e] at h; split at h <;> cases h
theorem refT2_nil {p : Part} {b : Batch} (h : refT2 p b = .nilIface) : refO p b = none ∧ endN p b ≤ 1048576 := by
  unfold refT2 at h
  cases hr : refO p b with
  | some x => rw [hr] at h; simp [faultT] at h
  | none =>
    rw [hr] at h
    simp only at h
    split at h
    · simp [faultT] at h
    · exact ⟨rfl, by omega⟩
theorem plain_ok {p : Part} {b : Batch} (h : POk p) (hb : mayBatch b = true) (hc : ckErr p.prods b = 0) (hi : ckIs p.prods b = false) (ht : b.txn = false) (hr : refT2 p b = .nilIface) : POk (plainP p b) := by
  obtain ⟨hro, hrn⟩ := refT2_nil hr
  have hno : ∀ o ∈ p.opens, o.pid ≠ b.pid := (refO_none hro).elim id fun e => by rw [ht] at e; cases e
  have h0 := h.b0; have h1 := h.b1; have h2 := h.b2
  unfold endN at hrn
  have htk := tkRes_ok hc hi (base := p.fin) ⟨by omega, h2⟩
  refine ⟨h0, by simp only [plainP]; omega, by simp only [plainP]; omega, ?_, fun r hr => ?_, h.osrt, fun r hr => ?_, mayPs_taken h.may hb hc hi ⟨by omega, h2⟩, fun o ho => ?_⟩
  · simp only [plainP, Srt]
    rw [List.pairwise_append]
    refine ⟨h.srt, rows_srt (by omega), fun x hx y hy => ?_⟩
    have := (h.rin x hx).2
    obtain ⟨i, z, hz, rfl⟩ := rows_get hy
    simp only [rowOf]; rw [if_neg (by omega)]; omega
  · simp only [plainP] at hr ⊢
    rcases List.mem_append.1 hr with hr | hr
    · have := h.rin r hr; omega
    · obtain ⟨i, z, hz, rfl⟩ := rows_get hr
      have hlt := (List.getElem?_eq_some_iff.1 hz).1
      simp only [rowOf]; rw [if_neg (by omega)]; omega
  · simp only [plainP] at hr
    rcases List.mem_append.1 hr with hr | hr
    · exact h.rok r hr
    · exact rows_ok hb hr
  · simp only [plainP] at ho ⊢
    have ho2 := h.ook o ho
    have hne := hno o ho
    unfold OpenOk at ho2 ⊢
    rw [htk, findP_set h.may, hasP_set h.may]
    have e : ¬ (takenP p.prods b p.fin).pid = o.pid := fun e => hne e.symm
    simp only [e, decide_false, Bool.false_or, if_false]
    exact ho2
theorem lastB_snoc {b : Batch} : ∀ {l : List Batch}, lastB (l ++ [b]) = behindB b
  | [] => rfl
  | [a] => rfl
  | a :: c :: r => by
    have := lastB_snoc (b := b) (l := c :: r)
    simpa [lastB] using this
theorem copyChain_snoc {pid ep : Int} {b : Batch} (hb : mayBatch b = true) (ht : b.txn = true) (hp : b.pid = pid) (he : b.epoch = ep) : ∀ {l : List Batch} {n : Int}, copyChain pid ep n l = true → l ≠ [] → b.seq = lastB l → copyChain pid ep n (l ++ [b]) = true
  | [], _, _, h, _ => absurd rfl h
  | [a], n, h, _, hs => by
    simp only [copyChain, Bool.and_eq_true, List.cons_append, List.nil_append] at h ⊢
    exact ⟨h.1, by simp [hb, ht, hp, he, hs, lastB]⟩
  | a :: c :: r, n, h, _, hs => by
    simp only [copyChain, Bool.and_eq_true, List.cons_append] at h ⊢
    refine ⟨h.1, ?_⟩
    have := copyChain_snoc hb ht hp he (l := c :: r) (n := behindB a) (by simp only [copyChain, Bool.and_eq_true]; exact h.2) (by simp) (by simpa [lastB] using hs)
    simpa [copyChain] using this
theorem firstSeq_snoc {b : Batch} {l : List Batch} (h : l ≠ []) : firstSeq (l ++ [b]) = firstSeq l := by
  cases l with
  | nil => exact absurd rfl h
  | cons a r => rfl
/- where there is no fence, the producer's next sequence is the batch's -/
theorem ck_next {l : List Prod} {b : Batch} (hl : mayPs l = true) (hb : mayBatch b = true) (hc : ckErr l b = 0) (hi : ckIs l b = false) (hh : hasP l b.pid = true) (he : (findP l b.pid).epoch = b.epoch) : b.seq = (findP l b.pid).next := by
  obtain ⟨h1, h2⟩ := ck_of hl hb
  rw [h1] at hc; rw [h2] at hi
  have hcur : curP l b = findP l b.pid := by simp [curP, hh, he]
  have hf : fenced l b = false := by simp [fenced, hh, he]
  have ha : (curP l b).seen.any (sameS b) = false := by simpa [chkIs, hf] using hi
  unfold chkErr at hc
  rw [hf, ha] at hc
  simp at hc
  rw [hcur] at hc
  exact hc
theorem join_open {p : Part} {b : Batch} (h : POk p) (hb : mayBatch b = true) (hc : ckErr p.prods b = 0) (hi : ckIs p.prods b = false) (ht : b.txn = true) (hr : refO p b = none) : copyOk (openOf p.opens b) = true ∧ (openOf p.opens b).epoch = b.epoch ∧ lastB (openOf p.opens b).batches = behindB b := by
  unfold openOf
  cases hf : p.opens.find? (fun o => decide (o.pid = b.pid)) with
  | none =>
    refine ⟨?_, rfl, rfl⟩
    simp [copyOk, copyChain, firstSeq, hb, ht]
  | some o =>
    obtain ⟨_, he, hn⟩ := refO_txn hr hf
    have ho := h.ook o (List.mem_of_find?_eq_some hf)
    have hpid : o.pid = b.pid := by simpa using List.find?_some hf
    unfold OpenOk at ho
    rw [hpid] at ho
    obtain ⟨h1, h2, h3, h4⟩ := ho
    have hs := ck_next h.may hb hc hi h2 (by rw [h3, he])
    refine ⟨?_, he, lastB_snoc⟩
    have hlen := copyOk_len h1
    have hne : o.batches ≠ [] := fun e => by rw [e] at hlen; simp at hlen
    simp only [copyOk, Bool.and_eq_true, decide_eq_true_eq, List.length_append, List.length_cons, List.length_nil, firstSeq_snoc hne] at h1 ⊢
    exact ⟨by omega, copyChain_snoc hb ht hpid.symm he.symm h1.2 hne (by rw [hs, h4])⟩
theorem txn_ok {p : Part} {b : Batch} (h : POk p) (hb : mayBatch b = true) (hc : ckErr p.prods b = 0) (hi : ckIs p.prods b = false) (ht : b.txn = true) (hr : refT2 p b = .nilIface) : POk (txnP p b) := by
  obtain ⟨hro, hrn⟩ := refT2_nil hr
  obtain ⟨k1, k2, k3⟩ := join_open h hb hc hi ht hro
  have htk := tkRes_ok hc hi (base := -1) ⟨by omega, by omega⟩
  refine ⟨h.b0, h.b1, h.b2, h.srt, h.rin, srt_insF h.osrt, h.rok, mayPs_taken h.may hb hc hi ⟨by omega, by omega⟩, fun o ho => ?_⟩
  simp only [txnP] at ho ⊢
  unfold OpenOk
  rw [htk, findP_set h.may, hasP_set h.may]
  rcases mem_insF.1 ho with rfl | ⟨ho, hne⟩
  · have e : (takenP p.prods b (-1)).pid = (openOf p.opens b).pid := openOf_pid.symm
    simp only [e, decide_true, Bool.true_or, if_true]
    exact ⟨k1, trivial, k2.symm, k3.symm⟩
  · have e : ¬ (takenP p.prods b (-1)).pid = o.pid := fun e => hne (by rw [openOf_pid]; exact e.symm)
    simp only [e, decide_false, Bool.false_or, if_false]
    exact h.ook o ho
end Go.Proofs.YtpdmaenhenfofaaGreatDoor

namespace Go.Proofs.YtpdmaenhenfofaaGreatDoor
open Go.Am
attribute [local irreducible] Decidable.decide
set_option maxRecDepth 100000
set_option maxHeartbeats 1000000
theorem Ct.freezeK {P : Program} {f : Nat} {xs : List AV} {σ σ2 s : St} {r r' : AV} {e : Env} (l : St) (h : Ct P f xs σ r σ2) (hz : frzIn l [r] [] σ2 = ([r'], e, s)) : Ct P f xs σ r' s := by
  refine ⟨h.1, fun vs w g hrl hi => (h.2 vs w g hrl hi).mono ?_⟩
  rintro ed w' ⟨v, g1, rfl, h1, h2, h3⟩
  obtain ⟨g2, k1, k2, k3, _⟩ := frzIn_sound (w := w') l (a := ⟨#[], []⟩) hz h3 (vs := [v]) (RelL.cons h2 RelL.nil) (fun t x hx => by simp [Am.look] at hx)
  exact ⟨v, g2, rfl, h1.trans k1, k3.2 0 v r' rfl rfl, k2⟩
theorem own2_ok (p : Part) (hs : smallPart p) : Ct Tryz.prog 53 [.agg (liftT (encPart p))] [] (.agg [.t (.int .i64 p.start), .t (.int .i64 p.fin), .row 28 5 0 (p.rows.map encRow).length, .t (.slice .any 3 (p.opens.map encOpn)), .t (.slice .any 4 (p.prods.map encProd))]) [(28, .grow 5 (p.rows.map encRow))] := by
  rw [List.length_map]
  refine Ct.freezeK (e := []) [(90, .grow 4 (p.prods.map encProd)), (80, .grow 3 (p.opens.map encOpn))] (own_ok p hs) ?_
  have b1 : Nat.beq 80 90 = false := rfl
  have b2 : Nat.beq 28 90 = false := rfl
  have b3 : Nat.beq 28 80 = false := rfl
  have b4 : Nat.beq 90 80 = false := rfl
  have t1 : (p.prods.map encProd).take p.prods.length = p.prods.map encProd := List.take_of_length_le (by simp)
  have t2 : (p.opens.map encOpn).take p.opens.length = p.opens.map encOpn := List.take_of_length_le (by simp)
  simp [frzIn, ownRows, Am.look, hasL, AV.has, frzL, frzE, frzA, frzS, b1, b2, b3, b4, t1, t2]
def entD (b : Batch) : Entry := { kind := 0, b := b, yes := false, next := 0, offset := 0, row := ⟨0, 0, 0, [], []⟩, prod := prodZ }
theorem entD_may {b : Batch} (hb : mayBatch b = true) : mayE (entD b) = true := by
  simp [mayE, isBare, bareE, entD, hb, prodZ]
theorem putE_D {b : Batch} (hb : mayBatch b = true) : putE [entD b] = 0 := by simp [putE, entD_may hb]
theorem putR_D {b : Batch} (hb : mayBatch b = true) (n : Bs) : putR n [entD b] = putW n [entD b] := by simp [putR, entD_may hb]
/- the writer of an engine -/
def wrT (e i : Int) : T := if e = 0 then .iface 152 (.agg (encSpot e i)) else .iface 153 (.agg (encSpot e i))
theorem produceP_ok (e i : Int) (he : e = 0 ∨ e = 1) (hi0 : i = 0 ∨ i = 1 ∨ i = 2) (p : Part) (b : Batch) (hs : smallPart p) (hf : 0 ≤ p.fin ∧ p.fin ≤ 1048576) (hb : mayBatch b = true) (ht : b.txn = false) (hc : ckErr p.prods b = 0) (hi : ckIs p.prods b = false) (hr : refT2 p b = .nilIface) : Ct Tryz.prog 38 [.t (wrT e i), .agg (liftT (encPart p)), .agg (liftT (encBatch b))] [] (.tuple [.agg (liftT (encPart (plainP p b))), .t (.int .i64 p.fin), .t (.slice .any 4 ((putW (logN e i) [entD b]).map encWr)), .t .nilIface]) [] := by
  have hs' := hs
  obtain ⟨s1, s2, s3, s4⟩ := hs'
  have hm := may_bounds hb
  have ck := scheck_ok p.prods b s4 (by omega)
  have cr := refused_ok p b hs (by omega) (by omega)
  have co := own2_ok p hs
  have ce := erows_ok p.start p.fin p.rows p.opens p.prods b hb hf.1 (by omega) s1
  unfold partB at ce
  have ct := take_ok p.prods b p.fin s4 (by omega)
  rw [hc, hi] at ck
  rw [hr] at cr
  rw [tkErr_ok hc hi (base := p.fin) ⟨by omega, hf.2⟩] at ct
  have ep := eput_ok (logN e i) [entD b] (by simp) (by simp [smallE, entD, prodZ]; omega)
  rw [putE_D hb, putR_D hb] at ep
  have cI := placeI_ok e i b he hi0
  have cB : e = 1 → Ct Tryz.prog 268 [.t (.agg (encSpot e i)), .agg (liftT (encBatch b))] [] (.t (.str (logN e i))) [] := fun h => by
    have := placeB_ok i b hi0 hb
    subst h
    rwa [show placeN 1 i b = logN 1 i by simp [placeN, ht]] at this
  refine ct0 progOk Tryz.func38 rfl false rfl rfl ?_
  repeat' (first | refine w_stepZ progOk rfl rfl rfl rfl rfl ?_ | refine w_step progOk rfl rfl rfl ?_ | refine w_nil ?_ | refine w_seq ?_ | refine w_reg progOk rfl rfl ?_ | (refine w_condP rfl (ht := fun h => ?_) (hf := fun h => ?_) <;> try exact prn) | refine w_skip ?_ | refine w_regD (id := 12) (m := 4) progOk (by kernel_rfl) rfl rfl rfl rfl ?_ | refine s_step rfl rfl rfl rfl ?_ | refine w_call progOk rfl rfl rfl rfl rfl rfl rfl (ck) rfl rfl ?_ | refine w_call progOk rfl rfl rfl rfl rfl rfl rfl (cr) rfl rfl ?_ | refine w_callR progOk [] [(28, 86)] rfl rfl rfl rfl rfl co rfl rfl rfl rfl rfl ?_ | refine w_callR progOk [(86, 3), (28, 1)] [(3, 86), (1, 28)] rfl rfl rfl rfl rfl ce rfl rfl rfl rfl rfl ?_ | refine w_call progOk rfl rfl rfl rfl rfl rfl rfl (ct) rfl rfl ?_ | fail)
  · exact absurd (by assumption : b.txn = true) (by rw [ht]; simp)
  refine Tr.weak (E := [(0, .t (wrT e i)), (5, .ref 10 0), (6, .ref 12 0), (10, .t (.int .i64 p.fin)), (14, .ref 28 0)]) (S := [(86, .grow 5 ((p.rows ++ rowsOf b p.fin).map encRow)), (28, .cells [.t (.int .i64 p.start), .t (.int .i64 (p.fin + b.recs.length)), .row 86 5 0 ((p.rows ++ rowsOf b p.fin).map encRow).length, .t (.slice .any 3 (p.opens.map encOpn)), .t (.slice .any 4 ((tkRes p.prods b p.fin).map encProd))]), (12, .cells (liftT ti41.zero)), (10, .cells (liftT (encBatch b)))]) ?_ (at_of [4] (sub_eq rfl rfl (sub_eq rfl rfl (sub_eq rfl rfl (sub_eq rfl rfl (sub_eq rfl rfl sub_nil))))) rfl)
  have hw : (e = 0 ∧ wrT e i = .iface 152 (.agg (encSpot e i))) ∨ (e = 1 ∧ wrT e i = .iface 153 (.agg (encSpot e i))) := by
    rcases he with rfl | rfl
    · exact .inl ⟨rfl, rfl⟩
    · exact .inr ⟨rfl, rfl⟩
  rcases hw with ⟨he1, hw⟩ | ⟨he1, hw⟩ <;> rw [hw]
  · repeat' (first | refine w_stepZ progOk rfl rfl rfl rfl rfl ?_ | refine w_step progOk rfl rfl rfl ?_ | refine w_nil ?_ | refine w_seq ?_ | refine w_reg progOk rfl rfl ?_ | (refine w_condP rfl (ht := fun h => ?_) (hf := fun h => ?_) <;> try exact prn) | refine w_skip ?_ | refine w_ret ?_ | refine w_regD (id := 18) (m := 11) progOk (by kernel_rfl) rfl rfl rfl rfl ?_ | refine s_step rfl rfl rfl rfl ?_ | refine s_call rfl rfl rfl rfl rfl (cI) rfl rfl ?_ | refine s_call rfl rfl rfl rfl rfl (Ct.args ep ⟨Sub.refl _, sub_sl ⟨⟨SubT.refl _, SubT.refl _, SubT.refl _, SubT.refl _, SubT.refl _, SubT.refl _, SubT.refl _, SubT.refl _, SubT.refl _, SubT.refl _, SubT.refl _, SubT.refl _, SubT.refl _, SubT.refl _, SubT.refl _, SubT.refl _, SubT.refl _, SubT.nil, trivial⟩, trivial⟩, trivial⟩) rfl rfl ?_ | fail)
    refine w_fin rfl (Sub.of_eq ?_)
    simp [plainP, encPart, liftT, frzA]
    exact List.take_of_length_le (by simp)
  · have cB := cB he1
    repeat' (first | refine w_stepZ progOk rfl rfl rfl rfl rfl ?_ | refine w_step progOk rfl rfl rfl ?_ | refine w_nil ?_ | refine w_seq ?_ | refine w_reg progOk rfl rfl ?_ | (refine w_condP rfl (ht := fun h => ?_) (hf := fun h => ?_) <;> try exact prn) | refine w_skip ?_ | refine w_ret ?_ | refine w_regD (id := 18) (m := 11) progOk (by kernel_rfl) rfl rfl rfl rfl ?_ | refine s_step rfl rfl rfl rfl ?_ | refine s_call rfl rfl rfl rfl rfl (cB) rfl rfl ?_ | refine s_call rfl rfl rfl rfl rfl (Ct.args ep ⟨Sub.refl _, sub_sl ⟨⟨SubT.refl _, SubT.refl _, SubT.refl _, SubT.refl _, SubT.refl _, SubT.refl _, SubT.refl _, SubT.refl _, SubT.refl _, SubT.refl _, SubT.refl _, SubT.refl _, SubT.refl _, SubT.refl _, SubT.refl _, SubT.refl _, SubT.refl _, SubT.nil, trivial⟩, trivial⟩, trivial⟩) rfl rfl ?_ | fail)
    refine w_fin rfl (Sub.of_eq ?_)
    simp [plainP, encPart, liftT, frzA]
    exact List.take_of_length_le (by simp)
end Go.Proofs.YtpdmaenhenfofaaGreatDoor

namespace Go.Proofs.YtpdmaenhenfofaaGreatDoor
open Go.Am
attribute [local irreducible] Decidable.decide
set_option maxRecDepth 100000
set_option maxHeartbeats 1000000
def greatB (b : Batch) : Bool := decide (40 < (b.recs.length : Int)) || b.recs.any greatR
def greatBs (l : List Batch) : Bool := decide (40 < (l.length : Int)) || l.any greatB
theorem greatBs_ok (l : List Batch) : Ct Tryz.prog 14 [.t (.slice .any 5 (l.map encBatch))] [] (.t (.bool (greatBs l))) [] := by
  refine ct0 progOk Tryz.func14 rfl false rfl rfl ?_
  have hlm : (l.map encBatch).length = l.length := List.length_map ..
  repeat' (first | refine w_step progOk rfl rfl rfl ?_ | refine w_nil ?_ | refine w_seq ?_ | refine w_reg progOk rfl rfl ?_ | (refine w_condP rfl (ht := fun h => ?_) (hf := fun h => ?_) <;> try exact prn) | refine w_block ?_ | refine w_skip ?_ | refine w_ret ?_ | fail)
  · refine w_fin rfl (subB ?_); rw [hlm] at h; simp [greatBs, h]
  have hg : decide (40 < (l.length : Int)) = false := decide_eq_false (by omega)
  refine w_loop (ι := Nat) (fun i => i ≤ l.length ∧ (l.take i).any greatB = false) (fun i => [(0, .t (.slice .any 5 (l.map encBatch))), (3, .t (.int .i64 i))]) (fun _ => []) (fun i => l.length - i) 0 (by simp) ?_ ?_
  · exact at_of [] (sub_eq rfl rfl (sub_eq rfl rfl sub_nil)) rfl
  rintro i ⟨hi, hany⟩
  by_cases hlt : i < l.length
  · have hr : l[i]? = some l[i] := List.getElem?_eq_getElem hlt
    generalize l[i] = r at hr
    have hlr : (r.recs.map encRec).length = r.recs.length := List.length_map ..
    repeat' (first | refine w_step progOk rfl rfl rfl ?_ | refine w_nil ?_ | refine w_seq ?_ | refine w_reg progOk rfl rfl ?_ | (refine w_condP rfl (ht := fun h => ?_) (hf := fun h => ?_) <;> try exact prn) | refine w_block ?_ | refine w_skip ?_ | refine w_ret ?_ | refine w_index progOk rfl rfl rfl rfl rfl rfl rfl (map_get (by assumption)) rfl ?_ | fail)
    · refine w_fin rfl (subB ?_); rw [hlr] at h; simp [greatBs, hg, any_of_get hr (p := greatB) (by simp [greatB, h])]
    have hgr : decide (40 < (r.recs.length : Int)) = false := decide_eq_false (by omega)
    refine w_loop (ι := Nat) (fun j => j ≤ r.recs.length ∧ (r.recs.take j).any greatR = false) (fun j => [(0, .t (.slice .any 5 (l.map encBatch))), (3, .t (.int .i64 i)), (4, .t (.int .i64 j))]) (fun _ => []) (fun j => r.recs.length - j) 0 (by simp) ?_ ?_
    · exact at_of [] (sub_eq rfl rfl (sub_eq rfl rfl (sub_eq rfl rfl sub_nil))) rfl
    rintro j ⟨hj, hanj⟩
    by_cases hlj : j < r.recs.length
    · have hrj : r.recs[j]? = some r.recs[j] := List.getElem?_eq_getElem hlj
      generalize r.recs[j] = c at hrj
      repeat' (first | refine w_step progOk rfl rfl rfl ?_ | refine w_nil ?_ | refine w_seq ?_ | refine w_reg progOk rfl rfl ?_ | (refine w_gFP rfl rfl rfl rfl rfl (ht := fun h => ?_) (hf := fun h => ?_) <;> try exact prn) | (refine w_condP rfl (ht := fun h => ?_) (hf := fun h => ?_) <;> try exact prn) | refine w_block ?_ | refine w_skip ?_ | refine w_ret ?_ | refine w_index progOk rfl rfl rfl rfl rfl rfl rfl (map_get (by assumption)) rfl ?_ | fail)
      all_goals first
        | (refine w_next (j + 1) ⟨hlj, any_take_succ hrj hanj (by simp [greatR]; omega)⟩ (by omega) [] (sub_eq rfl rfl (sub_eq rfl rfl (sub_eq rfl ?_ sub_nil))) rfl
           rw [wrap64 (by omega) (by omega)]; rfl)
        | (refine w_fin rfl (subB ?_)
           have hgc : greatR c = true := by simp [greatR]; omega
           simp [greatBs, hg, any_of_get hr (p := greatB) (by simp only [greatB, hgr, Bool.false_or]; exact any_of_get hrj hgc)])
    · repeat' (first | refine w_step progOk rfl rfl rfl ?_ | refine w_nil ?_ | refine w_seq ?_ | refine w_reg progOk rfl rfl ?_ | (refine w_condP rfl (ht := fun h => ?_) (hf := fun h => ?_) <;> try exact prn) | refine w_exit ?_ | refine w_index progOk rfl rfl rfl rfl rfl rfl rfl (map_get (by assumption)) rfl ?_ | fail)
      have hb : greatB r = false := by simp only [greatB, hgr, Bool.false_or]; exact any_take_all (by omega) hanj
      refine w_next (i + 1) ⟨hlt, any_take_succ hr hany hb⟩ (by omega) [] (sub_eq rfl rfl (sub_eq rfl ?_ sub_nil)) rfl
      rw [wrap64 (by omega) (by omega)]; rfl
  · repeat' (first | refine w_step progOk rfl rfl rfl ?_ | refine w_nil ?_ | refine w_seq ?_ | refine w_reg progOk rfl rfl ?_ | (refine w_condP rfl (ht := fun h => ?_) (hf := fun h => ?_) <;> try exact prn) | refine w_exit ?_ | refine w_ret ?_ | fail)
    exact w_fin rfl (subB (by simp [greatBs, hg, any_take_all (by omega) hany]))
theorem sameRows_ok (a b : List Row) (ha : a.length ≤ 100000000) : Ct Tryz.prog 16 [.t (.slice .any 5 (a.map encRow)), .t (.slice .any 5 (b.map encRow))] [] (.t (.bool (decide (a = b)))) [] := by
  refine ct0 progOk Tryz.func16 rfl false rfl rfl ?_
  have hla : (a.map encRow).length = a.length := List.length_map ..
  have hlb : (b.map encRow).length = b.length := List.length_map ..
  repeat' (first | refine w_step progOk rfl rfl rfl ?_ | refine w_nil ?_ | refine w_seq ?_ | refine w_reg progOk rfl rfl ?_ | (refine w_condP rfl (ht := fun h => ?_) (hf := fun h => ?_) <;> try exact prn) | refine w_block ?_ | refine w_skip ?_ | refine w_ret ?_ | fail)
  · exact w_fin rfl (subB (bF fun e => by subst e; exact h rfl))
  have hl : a.length = b.length := by omega
  refine w_loop (ι := Nat) (fun i => i ≤ a.length ∧ a.take i = b.take i) (fun i => [(0, .t (.slice .any 5 (a.map encRow))), (1, .t (.slice .any 5 (b.map encRow))), (5, .t (.int .i64 i))]) (fun _ => []) (fun i => a.length - i) 0 (by simp) ?_ ?_
  · exact at_of [] (sub_eq rfl rfl (sub_eq rfl rfl (sub_eq rfl rfl sub_nil))) rfl
  rintro i ⟨hi, htk⟩
  by_cases hlt : i < a.length
  · have hr : a[i]? = some a[i] := List.getElem?_eq_getElem hlt
    have hs : b[i]? = some (b[i]'(by omega)) := List.getElem?_eq_getElem _
    generalize a[i] = r at hr
    generalize b[i]'(by omega) = s at hs
    repeat' (first | refine w_step progOk rfl rfl rfl ?_ | refine w_nil ?_ | refine w_seq ?_ | refine w_reg progOk rfl rfl ?_ | (refine w_condP rfl (ht := fun h => ?_) (hf := fun h => ?_) <;> try exact prn) | refine w_block ?_ | refine w_skip ?_ | refine w_ret ?_ | refine w_regD (id := 6) (m := 8) progOk (by kernel_rfl) rfl rfl rfl rfl ?_ | refine s_step rfl rfl rfl rfl ?_ | refine s_index rfl rfl rfl rfl rfl rfl rfl (map_get (by assumption)) rfl ?_ | fail)
    · exact w_fin rfl (subB (bF (fun e => by subst e; rw [hr] at hs; cases hs; simp at h)))
    · have e : r = s := by cases r; cases s; simp at h; simp [h]
      refine w_next (i + 1) ⟨hlt, take_ext hr hs htk e⟩ (by omega) [] (sub_eq rfl rfl (sub_eq rfl rfl (sub_eq rfl ?_ sub_nil))) rfl
      rw [wrap64 (by omega) (by omega)]; rfl
  · repeat' (first | refine w_step progOk rfl rfl rfl ?_ | refine w_nil ?_ | refine w_seq ?_ | refine w_reg progOk rfl rfl ?_ | (refine w_condP rfl (ht := fun h => ?_) (hf := fun h => ?_) <;> try exact prn) | refine w_exit ?_ | refine w_ret ?_ | fail)
    exact w_fin rfl (subB (bT (take_eq hl (by omega) htk)))
end Go.Proofs.YtpdmaenhenfofaaGreatDoor

namespace Go.Proofs.YtpdmaenhenfofaaGreatDoor
open Go.Am
attribute [local irreducible] Decidable.decide
set_option maxRecDepth 100000
set_option maxHeartbeats 1000000
def refC (p : Part) (b : Batch) : Option (Bs × Int) := match refO p b with
  | some x => some x
  | none => if endN p b > 1048576 then some ([116, 104, 101, 32, 101, 110, 100], 102) else none
def errT : Option (Bs × Int) → T
  | some (s, n) => faultT 97 s n
  | none => .nilIface
theorem refT2_eq (p : Part) (b : Batch) : refT2 p b = errT (refC p b) := by
  unfold refT2 refC
  cases refO p b with
  | some x => rfl
  | none => simp only; split <;> rfl
theorem refC_none {p : Part} {b : Batch} (h : refC p b = none) : refT2 p b = .nilIface := by rw [refT2_eq, h]; rfl
structure PR where
  part : Part
  base : Int
  w : List Wr
  err : Option (Bs × Int)
def prodR (e i : Int) (p : Part) (b : Batch) : PR :=
  if ckErr p.prods b ≠ 0 then ⟨partZ, 0, [], some ([97, 32, 115, 101, 113, 117, 101, 110, 99, 101], ckErr p.prods b)⟩
  else if ckIs p.prods b = true then ⟨p, ckBase p.prods b, [], none⟩
  else match refC p b with
    | some x => ⟨partZ, 0, [], some x⟩
    | none => if b.txn = true then ⟨txnP p b, -1, putW (placeN e i b) [entD b], none⟩ else ⟨plainP p b, p.fin, putW (logN e i) [entD b], none⟩
def PR.av (r : PR) : AV := .tuple [.agg (liftT (encPart r.part)), .t (.int .i64 r.base), .t (.slice .any 4 (r.w.map encWr)), .t (errT r.err)]
theorem partZ_sub : Sub (.agg (liftT ti41.zero)) (.agg (liftT (encPart partZ))) := by
  refine sub_agg ?_
  exact ⟨Sub.refl _, Sub.refl _, sub_slNil, sub_slNil, sub_slNil, trivial⟩
theorem pr_bad {t : Option (Bs × Int)} {sz : Nat} {m : SM} : Sub (.tuple [.agg (liftT ti41.zero), .t (.int .i64 0), .t (.slice m sz []), .t (errT t)]) (PR.av ⟨partZ, 0, [], t⟩) := sub_tuple ⟨partZ_sub, Sub.refl _, sub_slNil, Sub.refl _, trivial⟩
theorem own3_ok (p : Part) (hs : smallPart p) : Ct Tryz.prog 53 [.agg (liftT (encPart p))] [] (.agg (liftT (encPart p))) [] := by
  have h := own2_ok p hs
  refine Ct.freeze (r' := .agg (liftT (encPart p))) (e := []) (s := []) h ?_ rfl
  have t1 : (p.rows.map encRow).take p.rows.length = p.rows.map encRow := List.take_of_length_le (by simp)
  simp [frzIn, ownRows, Am.look, hasL, AV.has, frzL, frzE, frzA, frzS, t1, encPart, liftT]
theorem produceE_ok (w : T) (p : Part) (b : Batch) (hs : smallPart p) (hf : 0 ≤ p.fin ∧ p.fin ≤ 1048576) (hb : mayBatch b = true) (h : ckErr p.prods b ≠ 0 ∨ ckIs p.prods b = true ∨ refC p b ≠ none) (e i : Int) : Ct Tryz.prog 38 [.t w, .agg (liftT (encPart p)), .agg (liftT (encBatch b))] [] (prodR e i p b).av [] := by
  have hm := may_bounds hb
  have ck := scheck_ok p.prods b hs.2.2.2 (by omega)
  have cr := refused_ok p b hs (by omega) (by omega)
  have co := own3_ok p hs
  by_cases h1 : ckErr p.prods b ≠ 0
  · have hr : prodR e i p b = ⟨partZ, 0, [], some ([97, 32, 115, 101, 113, 117, 101, 110, 99, 101], ckErr p.prods b)⟩ := by simp [prodR, h1]
    rw [hr]
    generalize ckErr p.prods b = n at *
    refine ct0 progOk Tryz.func38 rfl false rfl rfl ?_
    repeat' (first | refine w_stepZ progOk rfl rfl rfl rfl rfl ?_ | refine w_step progOk rfl rfl rfl ?_ | refine w_nil ?_ | refine w_seq ?_ | refine w_reg progOk rfl rfl ?_ | (refine w_condP rfl (ht := fun h => ?_) (hf := fun h => ?_) <;> try exact prn) | refine w_ret ?_ | refine w_call progOk rfl rfl rfl rfl rfl rfl rfl (ck) rfl rfl ?_ | fail)
    exact w_fin rfl (pr_bad (t := some ([97, 32, 115, 101, 113, 117, 101, 110, 99, 101], n)))
  · have h1' : ckErr p.prods b = 0 := Classical.not_not.1 h1
    by_cases h2 : ckIs p.prods b = true
    · have hr : prodR e i p b = ⟨p, ckBase p.prods b, [], none⟩ := by simp [prodR, h1', h2]
      rw [hr]
      rw [h1', h2] at ck
      refine ct0 progOk Tryz.func38 rfl false rfl rfl ?_
      repeat' (first | refine w_stepZ progOk rfl rfl rfl rfl rfl ?_ | refine w_step progOk rfl rfl rfl ?_ | refine w_nil ?_ | refine w_seq ?_ | refine w_reg progOk rfl rfl ?_ | (refine w_condP rfl (ht := fun h => ?_) (hf := fun h => ?_) <;> try exact prn) | refine w_skip ?_ | refine w_ret ?_ | refine w_call progOk rfl rfl rfl rfl rfl rfl rfl (ck) rfl rfl ?_ | refine w_call progOk rfl rfl rfl rfl rfl rfl rfl (co) rfl rfl ?_ | fail)
      exact w_fin rfl (sub_tuple ⟨Sub.refl _, Sub.refl _, sub_slNil, Sub.refl _, trivial⟩)
    · have h3 : refC p b ≠ none := by
        rcases h with h | h | h
        · exact absurd h1' h
        · exact absurd h h2
        · exact h
      have h2' : ckIs p.prods b = false := by simpa using h2
      rw [refT2_eq] at cr
      cases hrc : refC p b with
      | none => exact absurd hrc h3
      | some x =>
        have hr : prodR e i p b = ⟨partZ, 0, [], some x⟩ := by simp [prodR, h1', h2, hrc]
        rw [hr]
        rw [hrc] at cr
        rw [h1', h2'] at ck
        obtain ⟨s, n⟩ := x
        refine ct0 progOk Tryz.func38 rfl false rfl rfl ?_
        repeat' (first | refine w_stepZ progOk rfl rfl rfl rfl rfl ?_ | refine w_step progOk rfl rfl rfl ?_ | refine w_nil ?_ | refine w_seq ?_ | refine w_reg progOk rfl rfl ?_ | (refine w_condP rfl (ht := fun h => ?_) (hf := fun h => ?_) <;> try exact prn) | refine w_skip ?_ | refine w_ret ?_ | refine w_call progOk rfl rfl rfl rfl rfl rfl rfl (ck) rfl rfl ?_ | refine w_call progOk rfl rfl rfl rfl rfl rfl rfl (cr) rfl rfl ?_ | fail)
        exact w_fin rfl (pr_bad (t := some (s, n)))
/- all that is produced beside transactions -/
theorem produceG_ok (e i : Int) (he : e = 0 ∨ e = 1) (hi0 : i = 0 ∨ i = 1 ∨ i = 2) (p : Part) (b : Batch) (hs : smallPart p) (hf : 0 ≤ p.fin ∧ p.fin ≤ 1048576) (hb : mayBatch b = true)
    (hT : b.txn = true → ckErr p.prods b = 0 → ckIs p.prods b = false → refC p b = none → Ct Tryz.prog 38 [.t (wrT e i), .agg (liftT (encPart p)), .agg (liftT (encBatch b))] [] (prodR e i p b).av []) :
    Ct Tryz.prog 38 [.t (wrT e i), .agg (liftT (encPart p)), .agg (liftT (encBatch b))] [] (prodR e i p b).av [] := by
  by_cases h : ckErr p.prods b ≠ 0 ∨ ckIs p.prods b = true ∨ refC p b ≠ none
  · exact produceE_ok _ p b hs hf hb h e i
  · have h1 : ckErr p.prods b = 0 := Classical.byContradiction fun h' => h (.inl h')
    have h2 : ckIs p.prods b = false := by cases hh : ckIs p.prods b with
      | false => rfl
      | true => exact absurd (.inr (.inl hh)) h
    have h3 : refC p b = none := Classical.byContradiction fun h' => h (.inr (.inr h'))
    cases ht : b.txn with
    | true => exact hT ht h1 h2 h3
    | false =>
      have := produceP_ok e i he hi0 p b hs hf hb ht h1 h2 (refC_none h3)
      rw [show prodR e i p b = ⟨plainP p b, p.fin, putW (logN e i) [entD b], none⟩ by simp [prodR, h1, h2, h3, ht]]
      exact this
end Go.Proofs.YtpdmaenhenfofaaGreatDoor

namespace Go.Proofs.YtpdmaenhenfofaaGreatDoor
open Go.Am
attribute [local irreducible] Decidable.decide
set_option maxRecDepth 100000
set_option maxHeartbeats 1000000
structure PO where
  part : Part
  base : Int
  w : List Wr
  e : Int
def badOf (e q : Int) (p : Part) : Bool := decide (q < 0 ∨ 3 ≤ q) || (!partOk p || decide (e ≠ 0 ∧ e ≠ 1))
def Produce (e q : Int) (p : Part) (b : Batch) : PO :=
  if badOf e q p = true ∨ mayBatch b = false then ⟨partZ, 0, [], 2⟩
  else match (prodR e q p b).err with
    | some x => ⟨partZ, 0, [], x.2⟩
    | none => ⟨(prodR e q p b).part, (prodR e q p b).base, (prodR e q p b).w, 0⟩
def PO.av (r : PO) : AV := .tuple [.agg (liftT (encPart r.part)), .t (.int .i64 r.base), .t (.slice .any 4 (r.w.map encWr)), .t (.int .i64 r.e)]
theorem po_bad {n : Int} {sz : Nat} {m : SM} : Sub (.tuple [.agg (liftT ti41.zero), .t (.int .i64 0), .t (.slice m sz []), .t (.int .i64 n)]) (PO.av ⟨partZ, 0, [], n⟩) := sub_tuple ⟨partZ_sub, Sub.refl _, sub_slNil, Sub.refl _, trivial⟩
theorem of_bad {e q : Int} {p : Part} (h : badOf e q p = true) : ofW e q p = .nilIface ∧ ∃ s, ofE e q p = faultT 97 s 2 := by
  simp only [badOf, Bool.or_eq_true, decide_eq_true_eq, Bool.not_eq_true'] at h
  unfold ofW ofE
  by_cases h1 : q < 0 ∨ 3 ≤ q
  · exact ⟨if_pos (.inl h1), _, if_pos h1⟩
  · cases h2 : partOk p with
    | false => exact ⟨if_pos (.inr rfl), ckMsg p, by rw [if_neg h1]; simp [enT, h2]⟩
    | true =>
      have h3 : e ≠ 0 ∧ e ≠ 1 := by rcases h with h | h | h; exact absurd h h1; rw [h2] at h; cases h; exact h
      have h4 : ¬ ((q < 0 ∨ 3 ≤ q) ∨ true = false) := by simp; omega
      exact ⟨by rw [if_neg h4, if_neg h3.1, if_neg h3.2], [97, 110, 32, 101, 110, 103, 105, 110, 101], by rw [if_neg h1, if_neg (by simp), if_neg (by omega)]⟩
theorem of_good {e q : Int} {p : Part} (h : badOf e q p = false) : (ofW e q p = wrT e q ∧ ofE e q p = .nilIface) ∧ (e = 0 ∨ e = 1) ∧ (q = 0 ∨ q = 1 ∨ q = 2) ∧ partOk p = true := by
  simp only [badOf, Bool.or_eq_false_iff, decide_eq_false_iff_not, Bool.not_eq_false'] at h
  obtain ⟨h1, h2, h3⟩ := h
  have h4 : ¬ ((q < 0 ∨ 3 ≤ q) ∨ partOk p = false) := by rw [h2]; simp; omega
  have he : e = 0 ∨ e = 1 := by omega
  refine ⟨⟨?_, ?_⟩, he, by omega, h2⟩
  · unfold ofW wrT; rw [if_neg h4]
    rcases he with rfl | rfl
    · rw [if_pos rfl, if_pos rfl]
    · rw [if_neg (by decide), if_pos rfl, if_neg (by decide)]
  · unfold ofE; rw [if_neg h1, if_neg (by rw [h2]; simp), if_pos he]
theorem produceW_ok (e q : Int) (p : Part) (b : Batch) (hs : smallPart p) (hl : b.recs.length ≤ 1000000)
    (hp : badOf e q p = false → mayBatch b = true → Ct Tryz.prog 38 [.t (wrT e q), .agg (liftT (encPart p)), .agg (liftT (encBatch b))] [] (prodR e q p b).av []) :
    Ct Tryz.prog 15 [.t (.int .i8 e), .t (.int .i64 q), .agg (liftT (encPart p)), .agg (liftT (encBatch b))] [] (Produce e q p b).av [] := by
  have cof := of_ok e q p hs
  have cm := rmay_ok b (by omega)
  cases hbad : badOf e q p with
  | true =>
    obtain ⟨h1, s, h2⟩ := of_bad hbad
    have hr : Produce e q p b = ⟨partZ, 0, [], 2⟩ := by simp [Produce, hbad]
    rw [hr]
    rw [h1, h2] at cof
    refine ct0 progOk Tryz.func15 rfl false rfl rfl ?_
    repeat' (first | refine w_stepZ progOk rfl rfl rfl rfl rfl ?_ | refine w_step progOk rfl rfl rfl ?_ | refine w_nil ?_ | refine w_seq ?_ | refine w_reg progOk rfl rfl ?_ | (refine w_gTP rfl rfl rfl rfl rfl (ht := fun h => ?_) (hf := fun h => ?_) <;> try exact prn) | (refine w_condP rfl (ht := fun h => ?_) (hf := fun h => ?_) <;> try exact prn) | refine w_skip ?_ | refine w_ret ?_ | refine w_call progOk rfl rfl rfl rfl rfl rfl rfl (cof) rfl rfl ?_ | refine w_call progOk rfl rfl rfl rfl rfl rfl rfl (encode_ok s 2) rfl rfl ?_ | fail)
    exact w_fin rfl po_bad
  | false =>
    obtain ⟨⟨h1, h2⟩, he, hq, hpk⟩ := of_good hbad
    rw [h1, h2] at cof
    cases hm : mayBatch b with
    | false =>
      have hr : Produce e q p b = ⟨partZ, 0, [], 2⟩ := by simp [Produce, hm]
      rw [hr]
      rw [hm] at cm
      refine ct0 progOk Tryz.func15 rfl false rfl rfl ?_
      repeat' (first | refine w_stepZ progOk rfl rfl rfl rfl rfl ?_ | refine w_step progOk rfl rfl rfl ?_ | refine w_nil ?_ | refine w_seq ?_ | refine w_reg progOk rfl rfl ?_ | (refine w_gTP rfl rfl rfl rfl rfl (ht := fun h => ?_) (hf := fun h => ?_) <;> try exact prn) | (refine w_condP rfl (ht := fun h => ?_) (hf := fun h => ?_) <;> try exact prn) | refine w_skip ?_ | refine w_ret ?_ | refine w_call progOk rfl rfl rfl rfl rfl rfl rfl (cof) rfl rfl ?_ | refine w_call progOk rfl rfl rfl rfl rfl rfl rfl (cm) rfl rfl ?_ | refine w_call progOk rfl rfl rfl rfl rfl rfl rfl (encode_ok [97, 32, 98, 97, 116, 99, 104] 2) rfl rfl ?_ | fail)
      exact w_fin rfl po_bad
    | true =>
      rw [hm] at cm
      have cp := hp hbad hm
      cases hre : (prodR e q p b).err with
      | some x =>
        obtain ⟨s, n⟩ := x
        have hr : Produce e q p b = ⟨partZ, 0, [], n⟩ := by simp [Produce, hm, hbad, hre]
        rw [hr]
        unfold PR.av at cp
        rw [hre] at cp
        refine ct0 progOk Tryz.func15 rfl false rfl rfl ?_
        repeat' (first | refine w_stepZ progOk rfl rfl rfl rfl rfl ?_ | refine w_step progOk rfl rfl rfl ?_ | refine w_nil ?_ | refine w_seq ?_ | refine w_reg progOk rfl rfl ?_ | (refine w_gTP rfl rfl rfl rfl rfl (ht := fun h => ?_) (hf := fun h => ?_) <;> try exact prn) | (refine w_condP rfl (ht := fun h => ?_) (hf := fun h => ?_) <;> try exact prn) | refine w_skip ?_ | refine w_ret ?_ | refine w_call progOk rfl rfl rfl rfl rfl rfl rfl (cof) rfl rfl ?_ | refine w_call progOk rfl rfl rfl rfl rfl rfl rfl (cm) rfl rfl ?_ | refine w_call progOk rfl rfl rfl rfl rfl rfl rfl (cp) rfl rfl ?_ | refine w_call progOk rfl rfl rfl rfl rfl rfl rfl (encode_ok s n) rfl rfl ?_ | fail)
        exact w_fin rfl po_bad
      | none =>
        have hr : Produce e q p b = ⟨(prodR e q p b).part, (prodR e q p b).base, (prodR e q p b).w, 0⟩ := by simp [Produce, hm, hbad, hre]
        rw [hr]
        unfold PR.av at cp
        rw [hre] at cp
        generalize prodR e q p b = r at cp
        refine ct0 progOk Tryz.func15 rfl false rfl rfl ?_
        repeat' (first | refine w_stepZ progOk rfl rfl rfl rfl rfl ?_ | refine w_step progOk rfl rfl rfl ?_ | refine w_nil ?_ | refine w_seq ?_ | refine w_reg progOk rfl rfl ?_ | (refine w_gTP rfl rfl rfl rfl rfl (ht := fun h => ?_) (hf := fun h => ?_) <;> try exact prn) | (refine w_condP rfl (ht := fun h => ?_) (hf := fun h => ?_) <;> try exact prn) | refine w_skip ?_ | refine w_ret ?_ | refine w_call progOk rfl rfl rfl rfl rfl rfl rfl (cof) rfl rfl ?_ | refine w_call progOk rfl rfl rfl rfl rfl rfl rfl (cm) rfl rfl ?_ | refine w_call progOk rfl rfl rfl rfl rfl rfl rfl (cp) rfl rfl ?_ | fail)
        exact w_fin rfl (Sub.refl _)
end Go.Proofs.YtpdmaenhenfofaaGreatDoor

namespace Go.Proofs.YtpdmaenhenfofaaGreatDoor
open Go.Am
attribute [local irreducible] Decidable.decide
set_option maxRecDepth 100000
set_option maxHeartbeats 1000000
theorem mayFrom_len : ∀ {l : List Prod} {n : Int}, mayFrom n l = true → n ≤ 8 → (l.length : Int) ≤ 8 - n
  | [], n, _, h => by simp; omega
  | p :: r, n, h, _ => by
    simp only [mayFrom, Bool.and_eq_true, decide_eq_true_eq] at h
    have hb := known_bounds h.1.2
    unfold boundsP at hb
    have := mayFrom_len h.2 (by omega)
    simp only [List.length_cons]; omega
theorem mayPs_small {l : List Prod} (h : mayPs l = true) : smallPs l := by
  have h1 := mayFrom_len h (by omega)
  refine ⟨by omega, fun p hp => ?_⟩
  have hb := known_bounds ((mayPs_iff.1 h).2 p hp)
  unfold boundsP at hb; omega
theorem pOk_small {p : Part} (h : POk p) (hr : p.rows.length ≤ 1000000) (ho : p.opens.length ≤ 1000000) : smallPart p := by
  refine ⟨hr, ho, fun o hm => ?_, mayPs_small h.may⟩
  have hc := (h.ook o hm).1
  have hl := copyOk_len hc
  refine ⟨by omega, fun b hb => ?_⟩
  simp only [copyOk, Bool.and_eq_true] at hc
  have := may_bounds (chain_may hc.2 b hb)
  omega
theorem pOk_Z : POk partZ := ⟨by decide, by decide, by decide, List.Pairwise.nil, fun _ h => by simp [partZ] at h, List.Pairwise.nil, fun _ h => by simp [partZ] at h, rfl, fun _ h => by simp [partZ] at h⟩
structure YI (b : Batch) (i : Nat) (p : Part) : Prop where
  ok : POk p
  start : p.start = 0
  fin : p.fin = i
  opens : p.opens = []
  rows : p.rows = (b.recs.take i).mapIdx (rowOf b 0)
  none : i = 0 → p.prods = []
  has : 0 < i → hasP p.prods b.pid = true ∧ (findP p.prods b.pid).epoch = b.epoch ∧ (findP p.prods b.pid).next = i ∧ ∀ s ∈ (findP p.prods b.pid).seen, s.seq < i
end Go.Proofs.YtpdmaenhenfofaaGreatDoor
