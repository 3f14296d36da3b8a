/- The program's facts for the abstract machine. -/
import Derived.Test.YtpdmaenhenfofaaGreatDoorZTe
set_option linter.unusedVariables false
set_option linter.unusedSimpArgs false
namespace Go.Proofs.YtpdmaenhenfofaaGreatDoor
open Go.Am
def slash (a b : String) : String := (a.push (Char.ofNat 47)) ++ b
def nPlace : String := slash "roving" "engine.place"
def nLog : String := slash "roving" "engine.log"
def nEnd : String := slash "roving" "engine.end"
def nMore : String := slash "roving" "engine.more"
def invT (t : Nat) (name : String) : Option (Nat × Rc) :=
  if t = 152 then
    (if name = nPlace then some (264, .self)
    else if name = nEnd then some (262, .self)
    else if name = nMore then some (263, .self)
    else if name = nLog then some (245, .fld 0 2) else none)
  else if t = 153 then
    (if name = nPlace then some (268, .self)
    else if name = nEnd then some (266, .self)
    else if name = nMore then some (267, .self)
    else if name = nLog then some (245, .fld 0 2) else none)
  else if t = 97 then (if name = "Unwrap" then some (244, .self) else none)
  else none
def cfg : Conf := { te := te, imm := [99, 207, 216, 280, 292, 312, 325], own := [], inv := invT, ownR := [99, 101, 128, 53, 127, 72], sp := fun _ _ _ => none }
theorem progMix : Tryz.prog.follows .mixedOrders = true := by kernel_rfl
theorem progNum0 : (Tryz.prog.funcs.toList.all fun fn => !(fn.name == "runtime.NumGoroutine")) = true := by kernel_rfl
theorem inv0 : InvOk Tryz.prog 152 nPlace 264 .self := fun w v => by kernel_rfl
theorem inv1 : InvOk Tryz.prog 152 nEnd 262 .self := fun w v => by kernel_rfl
theorem inv2 : InvOk Tryz.prog 152 nMore 263 .self := fun w v => by kernel_rfl
theorem inv3 : InvOk Tryz.prog 152 nLog 245 (.fld 0 2) := fun w v => by kernel_rfl
theorem inv4 : InvOk Tryz.prog 153 nPlace 268 .self := fun w v => by kernel_rfl
theorem inv5 : InvOk Tryz.prog 153 nEnd 266 .self := fun w v => by kernel_rfl
theorem inv6 : InvOk Tryz.prog 153 nMore 267 .self := fun w v => by kernel_rfl
theorem inv7 : InvOk Tryz.prog 153 nLog 245 (.fld 0 2) := fun w v => by kernel_rfl
theorem inv8 : InvOk Tryz.prog 97 "Unwrap" 244 .self := fun w v => by kernel_rfl
theorem invOk : ∀ t name f rc, invT t name = some (f, rc) → InvOk Tryz.prog t name f rc := by
  intro t name f rc h
  unfold invT at h
  split at h
  · rename_i e; subst e
    split at h
    · rename_i e; subst e; cases h; exact inv0
    · split at h
      · rename_i e; subst e; cases h; exact inv1
      · split at h
        · rename_i e; subst e; cases h; exact inv2
        · split at h
          · rename_i e; subst e; cases h; exact inv3
          · cases h
  · split at h
    · rename_i e; subst e
      split at h
      · rename_i e; subst e; cases h; exact inv4
      · split at h
        · rename_i e; subst e; cases h; exact inv5
        · split at h
          · rename_i e; subst e; cases h; exact inv6
          · split at h
            · rename_i e; subst e; cases h; exact inv7
            · cases h
    · split at h
      · rename_i e; subst e
        split at h
        · rename_i e; subst e; cases h; exact inv8
        · cases h
      · cases h
theorem progOk : ProgOk Tryz.prog cfg where
  te := teOk
  inv := invOk
  num := fun f fn h => by
    have h0 := progNum0
    rw [List.all_eq_true] at h0
    have := h0 fn (List.mem_of_getElem? (by rw [Array.getElem?_toList]; exact h))
    simpa using this
  mix := progMix
  sp := fun f az σ r σ' h => by cases h
end Go.Proofs.YtpdmaenhenfofaaGreatDoor
