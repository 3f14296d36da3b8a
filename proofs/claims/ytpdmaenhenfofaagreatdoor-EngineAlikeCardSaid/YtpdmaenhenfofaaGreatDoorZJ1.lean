/- Contracts and laws, joined: Rb, Rc, Rd, Re, Rf. No condition beside those that each theorem names. -/
import Derived.Test.YtpdmaenhenfofaaGreatDoorZM8
set_option linter.unusedVariables false
set_option linter.unusedSimpArgs false
namespace Go.Proofs.YtpdmaenhenfofaaGreatDoor
open Go.Am
attribute [local irreducible] Decidable.decide
set_option maxRecDepth 100000
set_option maxHeartbeats 1000000
def nums (l : List Int) : Bs := l.flatMap fun n => vint n.toNat
def textB (s : Bs) : Bs := vint s.length ++ s
theorem bytesE_eq (s : Bs) : bytesE s = s.map encByte := rfl
end Go.Proofs.YtpdmaenhenfofaaGreatDoor

namespace Go.Proofs.YtpdmaenhenfofaaGreatDoor
open Go.Am
attribute [local irreducible] Decidable.decide
set_option maxRecDepth 100000
set_option maxHeartbeats 1000000
def okRec (r : Rec) : Bool := decide ((r.key.length : Int) ≤ 16) && decide ((r.value.length : Int) ≤ 16)
theorem okRec_iff {r : Rec} : okRec r = true ↔ (r.key.length : Int) ≤ 16 ∧ (r.value.length : Int) ≤ 16 := by simp [okRec]
def boundsB (b : Batch) : Prop := 1 ≤ b.pid ∧ b.pid ≤ 8 ∧ 0 ≤ b.epoch ∧ b.epoch ≤ 100 ∧ 0 ≤ b.seq ∧ 1 ≤ b.recs.length ∧ b.recs.length ≤ 4 ∧ b.seq + b.recs.length ≤ 1048576
instance (b : Batch) : Decidable (boundsB b) := by unfold boundsB; infer_instance
def mayBatch (b : Batch) : Bool := decide (boundsB b) && b.recs.all okRec
theorem all_of_take {α : Type} {p : α → Bool} {l : List α} {i : Nat} {x : α} (h : l[i]? = some x) (ha : (l.take i).all p = true) (hp : p x = true) : (l.take (i + 1)).all p = true := by
  rw [take_succ h, List.all_append, ha]; simp [hp]
theorem all_not {α : Type} {p : α → Bool} {l : List α} {i : Nat} {x : α} (h : l[i]? = some x) (hp : p x = false) : l.all p = false := by
  rw [List.all_eq_false]; exact ⟨x, List.mem_of_getElem? h, by simp [hp]⟩
theorem all_end {α : Type} {p : α → Bool} {l : List α} {i : Nat} (h : l.length ≤ i) (ha : (l.take i).all p = true) : l.all p = true := by
  rwa [List.take_of_length_le h] at ha
theorem may_no {b : Batch} (h : ¬ boundsB b) : false = mayBatch b := by simp [mayBatch, h]
end Go.Proofs.YtpdmaenhenfofaaGreatDoor

namespace Go.Proofs.YtpdmaenhenfofaaGreatDoor
open Go.Am
attribute [local irreducible] Decidable.decide
set_option maxRecDepth 100000
set_option maxHeartbeats 1000000
def mayRow (r : Row) : Bool := decide (1 ≤ r.pid ∧ r.pid ≤ 8 ∧ 0 ≤ r.seq ∧ r.seq ≤ 1048575 ∧ (r.key.length : Int) ≤ 16 ∧ (r.value.length : Int) ≤ 16)
end Go.Proofs.YtpdmaenhenfofaaGreatDoor

namespace Go.Proofs.YtpdmaenhenfofaaGreatDoor
open Go.Am
attribute [local irreducible] Decidable.decide
set_option maxRecDepth 100000
set_option maxHeartbeats 1000000
def bareB (x : Entry) : Batch := ⟨x.b.pid, x.b.epoch, 0, false, []⟩
abbrev b0 : Batch := ⟨0, 0, 0, false, []⟩
abbrev row0 : Row := ⟨0, 0, 0, [], []⟩
abbrev prod0 : Prod := ⟨0, 0, 0, []⟩
def bareE (x : Entry) : Entry :=
  if x.kind = 0 then ⟨x.kind, x.b, false, 0, 0, row0, prod0⟩
  else if x.kind = 1 then ⟨x.kind, bareB x, x.yes, 0, 0, row0, prod0⟩
  else if x.kind = 2 then ⟨x.kind, b0, false, 0, x.offset, row0, prod0⟩
  else if x.kind = 3 then ⟨x.kind, x.b, x.yes, if x.yes = true then x.next else 0, 0, row0, prod0⟩
  else if x.kind = 4 then ⟨x.kind, bareB x, false, x.next, 0, row0, prod0⟩
  else if x.kind = 5 then ⟨x.kind, b0, false, 0, 0, ⟨0, x.row.pid, x.row.seq, x.row.key, x.row.value⟩, prod0⟩
  else if x.kind = 6 then ⟨x.kind, b0, false, 0, 0, row0, x.prod⟩
  else ⟨x.kind, b0, false, 0, 0, row0, prod0⟩
end Go.Proofs.YtpdmaenhenfofaaGreatDoor

namespace Go.Proofs.YtpdmaenhenfofaaGreatDoor
open Go.Am
attribute [local irreducible] Decidable.decide
set_option maxRecDepth 100000
set_option maxHeartbeats 1000000
def okSeen (s : Seen) : Prop := 0 ≤ s.seq ∧ 1 ≤ s.count ∧ s.count ≤ 4 ∧ -1 ≤ s.base ∧ s.base ≤ 1048576
instance (s : Seen) : Decidable (okSeen s) := by unfold okSeen; infer_instance
def behindOf (next : Int) : List Seen → Int
  | [] => next
  | t :: _ => t.seq
def chainOk (next : Int) : List Seen → Bool
  | [] => true
  | s :: r => decide (okSeen s ∧ s.seq ≤ behindOf next r - s.count) && chainOk next r
def boundsP (p : Prod) : Prop := 1 ≤ p.pid ∧ p.pid ≤ 8 ∧ 0 ≤ p.epoch ∧ p.epoch ≤ 100 ∧ 0 ≤ p.next ∧ p.next ≤ 1048576 ∧ (p.seen.length : Int) ≤ 3
instance (p : Prod) : Decidable (boundsP p) := by unfold boundsP; infer_instance
def knownP (p : Prod) : Bool := decide (boundsP p) && chainOk p.next p.seen
theorem chain_behind {next : Int} (h0 : 0 ≤ next) (h1 : next ≤ 1048576) : ∀ {l : List Seen}, chainOk next l = true → 0 ≤ behindOf next l ∧ behindOf next l ≤ 1048576
  | [], _ => ⟨h0, h1⟩
  | s :: r, h => by
    simp only [chainOk, Bool.and_eq_true, decide_eq_true_eq] at h
    have ih := chain_behind h0 h1 h.2
    have := h.1.1; unfold okSeen at this
    simp only [behindOf]; omega
theorem known_no {p : Prod} (h : ¬ boundsP p) : false = knownP p := by simp [knownP, h]
theorem known_ch {p : Prod} (h : chainOk p.next p.seen = false) : false = knownP p := by simp [knownP, h]
theorem known_yes {p : Prod} (h : boundsP p) (h2 : chainOk p.next p.seen = true) : true = knownP p := by simp [knownP, h, h2]
theorem drop_cons {α : Type} {l : List α} {i : Nat} {x : α} (h : l[i]? = some x) : l.drop i = x :: l.drop (i + 1) := by
  obtain ⟨hi, rfl⟩ := List.getElem?_eq_some_iff.1 h
  exact List.drop_eq_getElem_cons hi
end Go.Proofs.YtpdmaenhenfofaaGreatDoor
