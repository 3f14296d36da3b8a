/- Contracts and laws, joined: Fa, Fb. No condition beside those that each theorem names. -/
import Derived.Test.YtbcoodmafoalmaaGreatDoorZM6
import Derived.Test.YtbcoodmafoalmaaGreatDoorZD1
import Derived.Test.YtbcoodmafoalmaaGreatDoorRows
import Derived.Test.YtbcoodmafoalmaaGreatDoorZT1
import Derived.ChangeSame
import Derived.ChangeVars
import Derived.JoinedOf
import Derived.RowKit
import Derived.RowKitTokens
import Derived.LaidLaws
import Derived.LaidMore
import Derived.LaidHandle
import Derived.Stop.Joined
import Derived.ReadAgain
import Derived.OpenShut
set_option linter.unusedVariables false
set_option linter.unusedSimpArgs false
namespace Go.Proofs.YtbcoodmafoalmaaGreatDoor
open Go.Am Go.ChangeShapes Go.WideShapes Go.RowKit
set_option maxRecDepth 100000
/- what the condition gives: the variable's one cell -/
theorem fa_own : ownKnob Tryz.prog.godebug = none := by kernel_rfl
theorem fa_et : Tryz.prog.globalNamed "errors.errorType" = some 0 := by kernel_rfl
theorem fa_size : Tryz.prog.types.size = 554 := by kernel_rfl
theorem fa_oneRow : ((List.range 554).filter fun t => Tryz.prog.rowNamed t [101, 114, 114, 111, 114]) = [27] := by kernel_rfl
def faLaid : List (String × DataW Unit) := Rows.bootNewRow.laid
theorem handle_of_laid {W : World} (h : laidMetH Tryz.prog faLaid W) : W.cell? ⟨0, 0, none⟩ = some (.iface 166 (.agg #[.pointer (some ⟨4, 27, none⟩)])) := by
  have h' : laidMet Tryz.prog (faLaid.filter fun x => x.2.handleName?.isNone) W ∧ handlesMet Tryz.prog [("errors.errorType", Rows.laid_errors_errorType)] W := h
  obtain ⟨name, u, ty, e1, e2, e3, e4, e5⟩ := h'.2 _ (List.mem_singleton.2 rfl)
  have en : name = [101, 114, 114, 111, 114] := (Option.some.inj e1).symm
  subst en
  have eu : (some 166 : Option TypeId) = some u := by rw [← e2]; kernel_rfl
  obtain rfl := Option.some.inj eu
  have hm : ty ∈ (List.range 554).filter fun t => Tryz.prog.rowNamed t [101, 114, 114, 111, 114] := List.mem_filter.2 ⟨List.mem_range.2 (by rw [← fa_size]; exact e3), e4⟩
  rw [fa_oneRow] at hm
  obtain rfl := List.mem_singleton.1 hm
  have hh : typeHandle Tryz.prog 27 = .pointer (some ⟨4, 27, none⟩) := by kernel_rfl
  rw [hh] at e5
  simpa using World.var?_cell fa_et e5 0
noncomputable def laidWorld (os : Os) : World := World.doorLaid Tryz.prog 600 os
theorem laidWorld_met (os : Os) (args : Array Value) : laidMetH Tryz.prog faLaid ((laidWorld os).forCall (fun _ _ => 0) ⟨#[], args, []⟩).memory :=
  laidMetH_of_parts (laidMet_of_run' 8 (by kernel_rfl) (by kernel_rfl)) (by kernel_rfl)
theorem fa_kids : Kids Tryz.prog (· < Tryz.prog.types.size) := kids_rows (by kernel_rfl) (by kernel_rfl)
theorem fa_full : ∀ t e, t < Tryz.prog.types.size → Tryz.prog.underlying t = some (.slice e) → 0 < Tryz.prog.cellsOf e := slices_full_of Tryz.prog (by kernel_rfl)
/- the ghost of a law's call: nothing is ours -/
def g00 : G := { β := fun _ => none, own := fun _ => False, oth := fun _ _ => False, sp := fun _ => none, bx := fun _ => False, lo := 0 }
theorem g00_M (b o : Nat) : ¬ g00.M b o := fun h => h.elim (fun x => x.1) (fun x => x)
theorem g00_inv {W : World} (h : W.cell? ⟨0, 0, none⟩ = some (.iface 166 (.agg #[.pointer (some ⟨4, 27, none⟩)]))) : Go.Am.Inv W g00 [] :=
  ⟨fun b B h => by simp [Go.Am.look] at h, fun b => by simp [Go.Am.look, g00], fun b b' blk h => by simp [g00] at h, fun blk h => h.elim (fun x => x.elim) (fun ⟨_, x⟩ => x.elim), fun b h => h.elim, fun blk o h => h.elim,
    fun p hp => by simp only [gIm, List.mem_singleton] at hp; subst hp; exact ⟨g00_M _ _, h⟩, Nat.zero_le _, .empty (fun _ _ h => by cases h) (fun _ => rfl)⟩
theorem relT_g00 {W : World} {v : Value} {x : T} (h : RelT W (fun _ _ => False) v x) : RelT W g00.M v x := h.mono fun b o u _ h2 => ⟨g00_M b o, h2⟩
theorem rel_of_one {W : World} {v : Value} {x : T} (h1 : v.cells.toList = [v]) (h : RelC W v.cells.toList [x]) : Rel W g00 v (.t x) := by
  rw [h1] at h
  exact .t _ _ (relT_g00 (h.2 0 v x rfl rfl))
/- what a law hands back; what it leaves -/
theorem carryAll {H : Type} {enc : TypeId × Value → H} {w w' : World} {spare : Nat → Bool} : ∀ {ts : List TypeId} {vs : List Value} {ds : List (DataW H)} {ps : List MemPlace}, DataW.TrodAll enc Tryz.prog w 0 spare true ts vs ds ps → (∀ p ∈ ps, w.sameAt w' p) → DataW.TrodAll enc Tryz.prog w' 0 spare true ts vs ds ps
  | [], [], [], _, h, _ => h
  | _ :: _, _ :: _, _ :: _, _, ⟨p, q, ⟨n, hn⟩, h2, e⟩, hs => ⟨p, q, ⟨n, DataW.trod_carry n _ _ _ hn (fun x hx => hs x (by rw [e]; exact List.mem_append_left _ hx))⟩, carryAll h2 (fun x hx => hs x (by rw [e]; exact List.mem_append_right _ hx)), e⟩
theorem same_of_ext {W w' : World} {g' : G} (hx : Ext W g00 w' g') {p : MemPlace} (hp : p.block < W.heap.size) : W.sameAt w' p := by
  have hk : ∀ blk, blk < W.heap.size → w'.heap[blk]? = W.heap[blk]? := fun blk hb => hx.keep blk hb (fun h => h)
  cases p with
  | cell b off => exact cell_of_heap (hk b hp) off none
  | map b => exact hk b hp
theorem kept_of_ext {W w' : World} {g' : G} (hx : Ext W g00 w' g') (may : MemPlace → Prop) : W.keptBut w' may := by
  refine ⟨hx.lo.2.1, hx.lo.2.2, fun i hi => ?_⟩
  rw [hx.keep i hi (fun h => h)]
  split
  · rename_i h1 h2; rw [h1] at h2; cases h2; exact ⟨rfl, rfl, rfl, fun _ _ => rfl⟩
  · rename_i h1 h2; rw [h1] at h2; cases h2; exact .inr ⟨rfl, rfl⟩
  · rfl
end Go.Proofs.YtbcoodmafoalmaaGreatDoor

namespace Go.Proofs.YtbcoodmafoalmaaGreatDoor
open Go.Am Go.ChangeShapes Go.WideShapes Go.RowKit
set_option maxRecDepth 100000
theorem one_of_int {W : World} {base : Nat} {t : TypeId} {k : IntKind} {v : Value} (hu : Tryz.prog.underlying t = some (.int k)) (h : Value.okWide Tryz.prog W .any base t v) : v.cells.toList = [v] := by
  cases v <;> simp [Value.okWide, hu, Cell.okWide, Cell.ok] at h <;> simp [Value.cells]
end Go.Proofs.YtbcoodmafoalmaaGreatDoor
