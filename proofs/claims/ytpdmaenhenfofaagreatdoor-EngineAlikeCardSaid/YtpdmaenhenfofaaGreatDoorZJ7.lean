/- Contracts and laws, joined: Cg, Wk. No condition beside those that each theorem names. -/
import Derived.Test.YtpdmaenhenfofaaGreatDoorZJ6
import Derived.Test.YtpdmaenhenfofaaGreatDoorZDm
import Derived.Test.YtpdmaenhenfofaaGreatDoorZJ5
import Derived.Test.YtpdmaenhenfofaaGreatDoorZM6
set_option linter.unusedVariables false
set_option linter.unusedSimpArgs false
namespace Go.Proofs.YtpdmaenhenfofaaGreatDoor
open Go.Am
attribute [local irreducible] Decidable.decide
set_option maxRecDepth 100000
set_option maxHeartbeats 1000000
def dI : T → Option Int
  | .int _ n => some n
  | _ => none
def dB : T → Option Bool
  | .bool b => some b
  | _ => none
def dS : T → Option Bs
  | .str s => some s
  | _ => none
def dMap {α : Type} (f : List T → Option α) : List (List T) → Option (List α)
  | [] => some []
  | x :: r => (f x).bind fun a => (dMap f r).bind fun l => some (a :: l)
def dL {α : Type} (f : List T → Option α) : T → Option (List α)
  | .slice _ _ es => dMap f es
  | _ => none
def dRec : List T → Option Rec
  | [a, b] => (dS a).bind fun a => (dS b).bind fun b => some ⟨a, b⟩
  | _ => none
def dBatch : List T → Option Batch
  | [a, b, c, d, e] => (dI a).bind fun a => (dI b).bind fun b => (dI c).bind fun c => (dB d).bind fun d => (dL dRec e).bind fun e => some ⟨a, b, c, d, e⟩
  | _ => none
def dSeen : List T → Option Seen
  | [a, b, c] => (dI a).bind fun a => (dI b).bind fun b => (dI c).bind fun c => some ⟨a, b, c⟩
  | _ => none
def dProd : List T → Option Prod
  | [a, b, c, e] => (dI a).bind fun a => (dI b).bind fun b => (dI c).bind fun c => (dL dSeen e).bind fun e => some ⟨a, b, c, e⟩
  | _ => none
def dRow : List T → Option Row
  | [a, b, c, d, e] => (dI a).bind fun a => (dI b).bind fun b => (dI c).bind fun c => (dS d).bind fun d => (dS e).bind fun e => some ⟨a, b, c, d, e⟩
  | _ => none
def dOpn : List T → Option Opn
  | [a, b, e] => (dI a).bind fun a => (dI b).bind fun b => (dL dBatch e).bind fun e => some ⟨a, b, e⟩
  | _ => none
def dEntry : List T → Option Entry
  | [k, b1, b2, b3, b4, b5, y, n, o, r1, r2, r3, r4, r5, p1, p2, p3, p4] => (dI k).bind fun k => (dBatch [b1, b2, b3, b4, b5]).bind fun b => (dB y).bind fun y => (dI n).bind fun n => (dI o).bind fun o => (dRow [r1, r2, r3, r4, r5]).bind fun r => (dProd [p1, p2, p3, p4]).bind fun p => some ⟨k, b, y, n, o, r, p⟩
  | _ => none
def dec1 {α : Type} (f : List T → Option α) : List AV → Option α
  | [.agg cs] => (allT cs).bind f
  | _ => none
def decPut : List AV → Option (Bs × List Entry)
  | [.t a, .t b] => (dS a).bind fun a => (dL dEntry b).bind fun b => some (a, b)
  | _ => none
def smallB (x : Entry) : Bool := Nat.ble x.b.recs.length 1000000 && Nat.ble x.prod.seen.length 1000000
def hKnown := hook 155 (dec1 dProd) (fun p => [.agg (liftT (encProd p))]) (fun p => Nat.ble p.seen.length 1000000) (fun p => .t (.bool (knownP p)))
def hCopies := hook 96 (dec1 dOpn) (fun o => [.agg (liftT (encOpn o))]) copyOk (fun o => .tuple [.t (.slice .any 18 ((copiesOf o).map encEntry)), .t (.int .i64 0)])
def hPut (f : Nat) (xs : List AV) (σ : St) : Option (AV × St) :=
  bif Nat.beq f 11 then (match σ with
    | [] => (match decPut xs with
      | some (name, l) => (match l with
        | [] => none
        | x :: r => bif (Nat.ble (x :: r).length 1000000 && ((x :: r).all smallB && (x :: r).all mayE)) && subAL xs [.t (.str name), .t (.slice .any 18 ((x :: r).map encEntry))] then
          some (.tuple [.row 86 4 0 ((putW name (x :: r)).map encWr).length, .t (.int .i64 0)], [(86, .grow 4 ((putW name (x :: r)).map encWr))]) else none)
      | none => none)
    | _ => none) else none
theorem hPut_ok {f : Nat} {xs : List AV} {σ σ' : St} {r : AV} (h : hPut f xs σ = some (r, σ')) : Ct Tryz.prog f xs σ r σ' := by
  unfold hPut at h
  cases hf : Nat.beq f 11 with
  | false => rw [hf] at h; simp at h
  | true =>
    rw [hf] at h
    have := Nat.eq_of_beq_eq_true hf
    subst this
    simp only [cond_true] at h
    split at h
    · split at h
      · rename_i name l hd
        split at h
        · cases h
        · rename_i x t
          cases hq : (Nat.ble (x :: t).length 1000000 && ((x :: t).all smallB && (x :: t).all mayE)) && subAL xs [.t (.str name), .t (.slice .any 18 ((x :: t).map encEntry))] with
          | false => rw [hq] at h; simp at h
          | true =>
            rw [hq] at h
            simp only [Bool.and_eq_true] at hq
            obtain ⟨⟨h1, h2, h3⟩, h4⟩ := hq
            simp only [cond_true, Option.some.injEq, Prod.mk.injEq] at h
            obtain ⟨rfl, rfl⟩ := h
            exact (eput_row name (x :: t) (by simpa using h1) (fun y hy => by have := List.all_eq_true.1 h2 y hy; simp [smallB] at this; exact this) (by simp) h3).args (subAL_ok h4)
      · cases h
    · cases h
def hDel (f : Nat) (xs : List AV) (σ : St) : Option (AV × St) :=
  bif Nat.beq f 105 then (match xs with
    | [.row b sz lo n, .t (.int .i64 (.ofNat i)), .t (.int .i64 j)] => (match Go.Am.look σ b with
      | some (.grow sz' es) => bif Nat.beq sz 3 && (Nat.beq sz' 3 && (Nat.beq lo 0 && (Nat.beq n es.length && (Nat.blt i es.length && (eqInt j ((i : Int) + 1) && Nat.ble es.length 1000000))))) then some (.row b 3 0 (es.length - 1), upd σ b (.grow 3 (es.eraseIdx i))) else none
      | _ => none)
    | _ => none) else none
theorem hDel_ok {f : Nat} {xs : List AV} {σ σ' : St} {r : AV} (h : hDel f xs σ = some (r, σ')) : Ct Tryz.prog f xs σ r σ' := by
  unfold hDel at h
  cases hf : Nat.beq f 105 with
  | false => rw [hf] at h; simp at h
  | true =>
    rw [hf] at h
    have := Nat.eq_of_beq_eq_true hf
    subst this
    simp only [cond_true] at h
    split at h
    · rename_i b sz lo n i j
      split at h
      · rename_i sz' es hb
        cases hq : (Nat.beq sz 3 && (Nat.beq sz' 3 && (Nat.beq lo 0 && (Nat.beq n es.length && (Nat.blt i es.length && (eqInt j ((i : Int) + 1) && Nat.ble es.length 1000000)))))) with
        | false => rw [hq] at h; simp at h
        | true =>
          rw [hq] at h
          simp only [Bool.and_eq_true] at hq
          obtain ⟨h1, h2, h3, h4, h5, h6, h7⟩ := hq
          have h1 := Nat.eq_of_beq_eq_true h1
          have h2 := Nat.eq_of_beq_eq_true h2
          have h3 := Nat.eq_of_beq_eq_true h3
          have h4 := Nat.eq_of_beq_eq_true h4
          have h6 := eqInt_eq h6
          subst h1; subst h2; subst h3; subst h4; subst h6
          simp at h
          obtain ⟨rfl, rfl⟩ := h
          exact delete_ct σ b es i hb (by simpa [Nat.blt_eq] using h5) (by simpa using h7)
      · cases h
    · cases h
def spF : Nat → List AV → St → Option (AV × St) := orElse3 hKnown (orElse3 hCopies (orElse3 hPut hDel))
theorem spF_ok {f : Nat} {xs : List AV} {σ σ' : St} {r : AV} (h : spF f xs σ = some (r, σ')) : Ct Tryz.prog f xs σ r σ' := by
  unfold spF orElse3 at h
  split at h
  · rename_i q hq; cases h; exact hook_ok (fun p hp => known_ok p (by simpa using hp)) hq
  · split at h
    · rename_i q hq; cases h; exact hook_ok (fun o ho => copies_ok o ho) hq
    · split at h
      · rename_i q hq; cases h; exact hPut_ok hq
      · exact hDel_ok h
def cfg1 : Conf := { cfg with sp := spF, ownR := 265 :: cfg.ownR }
theorem progOk1 : ProgOk Tryz.prog cfg1 where
  te := progOk.te
  inv := progOk.inv
  num := progOk.num
  mix := progOk.mix
  sp := fun f xs σ r σ' h => spF_ok h
noncomputable def spG : Nat → List AV → St → Option (AV × St) := orElse3 spF (hLend Tryz.prog cfg1 [54])
theorem spG_ok {f : Nat} {xs : List AV} {σ σ' : St} {r : AV} (h : spG f xs σ = some (r, σ')) : Ct Tryz.prog f xs σ r σ' := by
  unfold spG orElse3 at h
  split at h
  · rename_i q hq; cases h; exact spF_ok hq
  · exact hLend_ok progOk1 h
noncomputable def cfg2 : Conf := { cfg1 with own := [54, 56, 105], sp := spG }
theorem progOk2 : ProgOk Tryz.prog cfg2 where
  te := progOk.te
  inv := progOk.inv
  num := progOk.num
  mix := progOk.mix
  sp := fun f xs σ r σ' h => spG_ok h
end Go.Proofs.YtpdmaenhenfofaaGreatDoor

namespace Go.Proofs.YtpdmaenhenfofaaGreatDoor
open Go.Am
attribute [local irreducible] Decidable.decide
set_option maxRecDepth 100000
set_option maxHeartbeats 1000000
theorem wakes_run : (callV Tryz.prog cfg2 60 10 [] []).map (·.1) = some (.t (.bool true)) := by kernel_rfl
theorem wakes_ok : Ct Tryz.prog 10 [] [] (.t (.bool true)) [] := ctB progOk2 60 wakes_run
end Go.Proofs.YtpdmaenhenfofaaGreatDoor
