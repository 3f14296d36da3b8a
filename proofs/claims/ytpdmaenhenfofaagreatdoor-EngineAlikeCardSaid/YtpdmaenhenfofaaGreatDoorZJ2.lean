/- Contracts and laws, joined: Rg, Rh, Ri, Rj, Rk, Rl. No condition beside those that each theorem names. -/
import Derived.Test.YtpdmaenhenfofaaGreatDoorZJ1
set_option linter.unusedVariables false
set_option linter.unusedSimpArgs false
namespace Go.Proofs.YtpdmaenhenfofaaGreatDoor
open Go.Am
attribute [local irreducible] Decidable.decide
set_option maxRecDepth 100000
set_option maxHeartbeats 1000000
def isBare (x : Entry) : Bool := decide (x = bareE x)
def mayE (x : Entry) : Bool := isBare x &&
  (if x.kind = 0 then mayBatch x.b
  else if x.kind = 1 then decide (1 ≤ x.b.pid ∧ x.b.pid ≤ 8 ∧ 0 ≤ x.b.epoch ∧ x.b.epoch ≤ 100)
  else if x.kind = 2 then decide (0 ≤ x.offset ∧ x.offset ≤ 1048576)
  else if x.kind = 3 then mayBatch x.b && x.b.txn && decide (0 ≤ x.next ∧ x.next ≤ 1048576)
  else if x.kind = 4 then decide (1 ≤ x.b.pid ∧ x.b.pid ≤ 8 ∧ 0 ≤ x.b.epoch ∧ x.b.epoch ≤ 100) && decide (0 ≤ x.next ∧ x.next ≤ 1048576)
  else if x.kind = 5 then mayRow x.row
  else if x.kind = 6 then knownP x.prod
  else false)
def recB (r : Rec) : Bs := textB r.key ++ textB r.value
def flagB (y : Bool) : Bs := [if y then 1 else 0]
def batchB (b : Batch) : Bs := vint b.pid.toNat ++ vint b.epoch.toNat ++ vint b.seq.toNat ++ flagB b.txn ++ vint b.recs.length ++ b.recs.flatMap recB
theorem textB_len {s : Bs} (h : s.length ≤ 16) : (textB s).length ≤ 22 := by
  have := vint_len6 (n := s.length) (by omega)
  simp [textB]; omega
theorem recs_len : ∀ {l : List Rec}, l.all okRec = true → (l.flatMap recB).length ≤ 44 * l.length
  | [], _ => by simp
  | r :: l, h => by
    simp only [List.all_cons, Bool.and_eq_true] at h
    have ih := recs_len h.2
    have h1 := okRec_iff.1 h.1
    have h2 := textB_len (s := r.key) (by omega)
    have h3 := textB_len (s := r.value) (by omega)
    simp only [List.flatMap_cons, List.length_append, List.length_cons, recB]; omega
theorem nil_bytes {sz : Nat} : Sub (.t (.slice .nil sz [])) (.t (.slice .any 1 (([] : Bs).map encByte))) := sub_slNil
end Go.Proofs.YtpdmaenhenfofaaGreatDoor

namespace Go.Proofs.YtpdmaenhenfofaaGreatDoor
open Go.Am
attribute [local irreducible] Decidable.decide
set_option maxRecDepth 100000
set_option maxHeartbeats 1000000
def seenB (s : Seen) : Bs := nums [s.seq, s.count, s.base + 1]
def entryB (x : Entry) : Bs := UInt8.ofNat x.kind.toNat ::
  (if x.kind = 0 then batchB x.b
  else if x.kind = 1 then nums [x.b.pid, x.b.epoch] ++ flagB x.yes
  else if x.kind = 2 then nums [x.offset]
  else if x.kind = 3 then batchB x.b ++ flagB x.yes ++ (if x.yes then nums [x.next] else [])
  else if x.kind = 4 then nums [x.b.pid, x.b.epoch] ++ nums [x.next]
  else if x.kind = 5 then nums [x.row.pid, x.row.seq] ++ textB x.row.key ++ textB x.row.value
  else nums [x.prod.pid, x.prod.epoch, x.prod.next, x.prod.seen.length] ++ x.prod.seen.flatMap seenB)
theorem batchB_len {b : Batch} (h : mayBatch b = true) : (batchB b).length ≤ 1000 := by
  simp only [mayBatch, Bool.and_eq_true, decide_eq_true_eq] at h
  obtain ⟨hbd, hall⟩ := h
  unfold boundsB at hbd
  have l1 := vint_len6 (n := b.pid.toNat) (by omega)
  have l2 := vint_len6 (n := b.epoch.toNat) (by omega)
  have l3 := vint_len6 (n := b.seq.toNat) (by omega)
  have l4 := vint_len6 (n := b.recs.length) (by omega)
  have l5 := recs_len hall
  unfold batchB
  simp only [List.length_append, flagB, List.length_cons, List.length_nil]; omega
theorem mayE_kind {x : Entry} (h : mayE x = true) : x.kind = 0 ∨ x.kind = 1 ∨ x.kind = 2 ∨ x.kind = 3 ∨ x.kind = 4 ∨ x.kind = 5 ∨ x.kind = 6 := by
  unfold mayE at h
  simp only [Bool.and_eq_true] at h
  have h := h.2
  repeat (split at h; · simp [*])
  cases h
theorem mayE_alt {x : Entry} (h : mayE x = true) : x = bareE x ∧ (if x.kind = 0 then mayBatch x.b = true
  else if x.kind = 1 then (1 ≤ x.b.pid ∧ x.b.pid ≤ 8 ∧ 0 ≤ x.b.epoch ∧ x.b.epoch ≤ 100)
  else if x.kind = 2 then (0 ≤ x.offset ∧ x.offset ≤ 1048576)
  else if x.kind = 3 then mayBatch x.b = true ∧ x.b.txn = true ∧ (0 ≤ x.next ∧ x.next ≤ 1048576)
  else if x.kind = 4 then (1 ≤ x.b.pid ∧ x.b.pid ≤ 8 ∧ 0 ≤ x.b.epoch ∧ x.b.epoch ≤ 100) ∧ (0 ≤ x.next ∧ x.next ≤ 1048576)
  else if x.kind = 5 then mayRow x.row = true
  else x.kind = 6 ∧ knownP x.prod = true) := by
  unfold mayE isBare at h
  simp only [Bool.and_eq_true, decide_eq_true_eq] at h
  obtain ⟨h1, h⟩ := h
  refine ⟨h1, ?_⟩
  clear h1
  repeat (split at h; · simp_all)
  cases h
end Go.Proofs.YtpdmaenhenfofaaGreatDoor

namespace Go.Proofs.YtpdmaenhenfofaaGreatDoor
open Go.Am
attribute [local irreducible] Decidable.decide
set_option maxRecDepth 100000
set_option maxHeartbeats 1000000
theorem chain_seen {next : Int} (h0 : 0 ≤ next) (h1 : next ≤ 1048576) : ∀ {l : List Seen}, chainOk next l = true → ∀ s ∈ l, okSeen s ∧ s.seq ≤ 1048576
  | [], _, s, hs => by simp at hs
  | t :: r, h, s, hs => by
    have hb := chain_behind h0 h1 h
    simp only [chainOk, Bool.and_eq_true, decide_eq_true_eq] at h
    rcases List.mem_cons.1 hs with rfl | hs
    · exact ⟨h.1.1, hb.2⟩
    · exact chain_seen h0 h1 h.2 s hs
theorem seenB_len {s : Seen} (h : okSeen s) (h1 : s.seq ≤ 1048576) : (seenB s).length ≤ 18 := by
  unfold okSeen at h
  have l1 := vint_len6 (n := s.seq.toNat) (by omega)
  have l2 := vint_len6 (n := s.count.toNat) (by omega)
  have l3 := vint_len6 (n := (s.base + 1).toNat) (by omega)
  simp [seenB, nums]; omega
theorem seens_len : ∀ {l : List Seen}, (∀ s ∈ l, okSeen s ∧ s.seq ≤ 1048576) → (l.flatMap seenB).length ≤ 18 * l.length
  | [], _ => by simp
  | s :: l, h => by
    have ih := seens_len (l := l) fun t ht => h t (List.mem_cons_of_mem _ ht)
    have h1 := h s (by simp)
    have h2 := seenB_len h1.1 h1.2
    simp only [List.flatMap_cons, List.length_append, List.length_cons]; omega
end Go.Proofs.YtpdmaenhenfofaaGreatDoor

namespace Go.Proofs.YtpdmaenhenfofaaGreatDoor
open Go.Am
attribute [local irreducible] Decidable.decide
set_option maxRecDepth 100000
set_option maxHeartbeats 1000000
def frameB (s : Bs) : Bs := [UInt8.ofNat (s.length % 256), UInt8.ofNat (s.length / 256), 0, 0] ++ s
theorem hch {n : Nat} {a b : Int} (h1 : T.int .u8 a = T.int .u8 ((UInt8.ofNat (n % 256)).toNat : Int)) (h2 : T.int .u8 b = T.int .u8 ((UInt8.ofNat (n / 256)).toNat : Int)) : chunk 1 4 [T.int .u8 a, T.int .u8 b, T.int .u8 0, T.int .u8 0] = bytesE [UInt8.ofNat (n % 256), UInt8.ofNat (n / 256), 0, 0] := by
  rw [h1, h2]; rfl
end Go.Proofs.YtpdmaenhenfofaaGreatDoor

namespace Go.Proofs.YtpdmaenhenfofaaGreatDoor
open Go.Am
attribute [local irreducible] Decidable.decide
set_option maxRecDepth 100000
set_option maxHeartbeats 1000000
theorem entryB_len {x : Entry} (hm : mayE x = true) : (entryB x).length ≤ 1024 := by
  have hma := (mayE_alt hm).2
  have v1 : ∀ n : Int, 0 ≤ n → n ≤ 1099511627776 → (vint n.toNat).length ≤ 6 := fun n h0 h1 => vint_len6 (by omega)
  unfold entryB
  rw [List.length_cons]
  split at hma
  · rename_i hk; rw [if_pos hk]; have := batchB_len hma; omega
  rename_i hk0; rw [if_neg hk0]
  split at hma
  · rename_i hk; rw [if_pos hk]
    have a1 := v1 x.b.pid (by omega) (by omega)
    have a2 := v1 x.b.epoch (by omega) (by omega)
    simp [nums, flagB]; omega
  rename_i hk1; rw [if_neg hk1]
  split at hma
  · rename_i hk; rw [if_pos hk]
    have a1 := v1 x.offset (by omega) (by omega)
    simp [nums]; omega
  rename_i hk2; rw [if_neg hk2]
  split at hma
  · rename_i hk; rw [if_pos hk]
    have := batchB_len hma.1
    have a1 := v1 x.next (by omega) (by omega)
    split <;> simp [nums, flagB] <;> omega
  rename_i hk3; rw [if_neg hk3]
  split at hma
  · rename_i hk; rw [if_pos hk]
    have a1 := v1 x.b.pid (by omega) (by omega)
    have a2 := v1 x.b.epoch (by omega) (by omega)
    have a3 := v1 x.next (by omega) (by omega)
    simp [nums]; omega
  rename_i hk4; rw [if_neg hk4]
  split at hma
  · rename_i hk; rw [if_pos hk]
    simp only [mayRow, decide_eq_true_eq] at hma
    have a1 := v1 x.row.pid (by omega) (by omega)
    have a2 := v1 x.row.seq (by omega) (by omega)
    have a3 := textB_len (s := x.row.key) (by omega)
    have a4 := textB_len (s := x.row.value) (by omega)
    simp [nums]; omega
  rename_i hk5; rw [if_neg hk5]
  obtain ⟨_, hma⟩ := hma
  simp only [knownP, Bool.and_eq_true, decide_eq_true_eq] at hma
  obtain ⟨hbd, hch⟩ := hma
  unfold boundsP at hbd
  have hs := seens_len (chain_seen (by omega) (by omega) hch)
  have a1 := v1 x.prod.pid (by omega) (by omega)
  have a2 := v1 x.prod.epoch (by omega) (by omega)
  have a3 := v1 x.prod.next (by omega) (by omega)
  have a4 := v1 x.prod.seen.length (by omega) (by omega)
  rw [List.length_append]
  have : (nums [x.prod.pid, x.prod.epoch, x.prod.next, (x.prod.seen.length : Int)]).length ≤ 24 := by simp [nums] at *; omega
  omega
def wrOf (name : Bs) (x : Entry) : Wr := ⟨0, name, frameB (entryB x), 0⟩
def putW (name : Bs) (l : List Entry) : List Wr := l.map (wrOf name) ++ [⟨1, name, [], 0⟩]
def putR (name : Bs) (l : List Entry) : List Wr := if l ≠ [] ∧ l.all mayE = true then putW name l else []
def putE (l : List Entry) : Int := if l ≠ [] ∧ l.all mayE = true then 0 else 2
def smallE (x : Entry) : Prop := x.b.recs.length ≤ 1000000 ∧ x.prod.seen.length ≤ 1000000
end Go.Proofs.YtpdmaenhenfofaaGreatDoor
