/- Contracts and laws, joined: Eb, Es. No condition beside those that each theorem names. -/
import Derived.Test.YtbcoodmafoalmaaGreatDoorZE1
import Derived.Test.YtbcoodmafoalmaaGreatDoorZT1
import Derived.Test.YtbcoodmafoalmaaGreatDoorZD1
import Derived.Test.YtbcoodmafoalmaaGreatDoorZM5
set_option linter.unusedVariables false
set_option linter.unusedSimpArgs false
namespace Go.Proofs.YtbcoodmafoalmaaGreatDoor
open Go.Am
attribute [local irreducible] Decidable.decide
set_option maxRecDepth 100000
set_option maxHeartbeats 1000000
theorem sets_setCell {w : World} {blk : Nat} {u : Array Value} {e : TypeId} (h : w.heap[blk]? = some (.cells u e (0, 0))) (v : Value) : Sets w (w.setCell ⟨blk, 0, none⟩ v) blk (u.setIfInBounds 0 v) e where
  size := by simp [World.setCell]
  old b hb := by simp [World.setCell, Array.getElem?_modify, Ne.symm hb]
  new := by simp [World.setCell, Array.getElem?_modify, h]
  same := ⟨rfl, rfl⟩
def AsOk (ft off : Nat) : Prop := ∀ (pb po : Nat) (t : Addr) (n : Int) (old : Value) (w : World), w.cell? ⟨0, 0, none⟩ = some (.iface 166 (.agg #[.pointer (some ⟨4, 27, none⟩)])) → w.cell? ⟨pb, po + off, none⟩ = some (.int .i64 n) → w.cell? t = some old → w.frozen? t = false →
  Calls Tryz.prog 27 #[.iface ft (.pointer (some ⟨pb, po, none⟩)), .iface 80 (.pointer (some t))] w fun ev w' => ev = .returned (.bool true) ∧ ∃ o1 o2 o3 o4, w' = ((((w.alloc o1).alloc o2).alloc o3).alloc o4).setCell t (.int .i64 n)
theorem as_ct {ft off : Nat} (h : AsOk ft off) (cs : List T) (n e0 : Int) (hcs : cs[off]? = some (.int .i64 n)) :
    Ct Tryz.prog 27 [.t (.iface ft (.ptr cs)), .iface 80 (.ref 1 0)] [(1, .cells [.t (.int .i64 e0)])] (.t (.bool true)) [(1, .cells [.t (.int .i64 n)])] := by
  refine ⟨⟨_, Tryz.func27, rfl⟩, fun vs w g hr hi => ?_⟩
  obtain ⟨hlen, hrel⟩ := hr
  match vs, hlen with
  | [v1, v2], _ =>
    have r1 := rel_t_inv (hrel 0 v1 _ rfl rfl)
    have r2 := hrel 1 v2 _ rfl rfl
    cases r1 with
    | iface _ p1 _ r1 =>
      obtain ⟨pb, po, rfl, hc⟩ := ptr_inv r1
      cases r2 with
      | iface _ p2 _ r2 =>
        cases r2 with
        | ref _ _ blk hb =>
          obtain ⟨blk', u, e, k1, k2, k3, k4, k5⟩ := hi.ok 1 _ rfl
          rw [hb] at k1; cases k1
          have hu : u.size = 1 := by rw [k4]; rfl
          have hg := (hi.im _ (List.mem_singleton.2 rfl)).2
          obtain ⟨_, _, x1, hx1, hx2⟩ := hc off _ hcs
          have hx3 : x1 = .int .i64 n := by cases hx2; rfl
          subst hx3
          have ht : w.cell? ⟨blk, 0, none⟩ = some u[0] := by simp [World.cell?, k3]
          have hf : w.frozen? ⟨blk, 0, none⟩ = false := by simp [World.frozen?, k3]
          refine (h pb po ⟨blk, 0, none⟩ n _ w hg hx1 ht hf).mono ?_
          rintro ev w' ⟨rfl, o1, o2, o3, o4, rfl⟩
          obtain ⟨a1, a2, a3⟩ := imm_new hi (More.alloc w o1)
          obtain ⟨b1, b2, b3⟩ := imm_new a2 (More.alloc _ o2)
          obtain ⟨c1, c2, c3⟩ := imm_new b2 (More.alloc _ o3)
          obtain ⟨d1, d2, d3⟩ := imm_new c2 (More.alloc _ o4)
          have hh : ((((w.alloc o1).alloc o2).alloc o3).alloc o4).heap[blk]? = some (.cells u e (0, 0)) := by
            have hbl := heap_lt k3
            rw [(More.alloc _ o4).old blk (by simp; omega), (More.alloc _ o3).old blk (by simp; omega), (More.alloc _ o2).old blk (by simp; omega), (More.alloc _ o1).old blk hbl]; exact k3
          obtain ⟨q1, q2, q3⟩ := own_set d2 (B := .cells [.t (.int .i64 n)]) hb hh (by simp) (sets_setCell hh (.int .i64 n)) (fun _ => ⟨_, rfl⟩) (fun _ => ⟨blk, _, e, hb, k2, (sets_setCell hh (.int .i64 n)).new, by simp [hu], fun i v x hv hx => by
            match i with
            | 0 => simp [hu] at hv hx; subst hv; subst hx; exact .t _ _ (.int _ _)
            | i + 1 => simp at hx⟩)
          exact ⟨_, g, rfl, (((a1.trans b1).trans c1).trans d1).trans q1, .t _ _ (.bool _), q2⟩
end Go.Proofs.YtbcoodmafoalmaaGreatDoor

namespace Go.Proofs.YtbcoodmafoalmaaGreatDoor
open Go.Am
attribute [local irreducible] Decidable.decide
set_option maxRecDepth 100000
set_option maxHeartbeats 1000000
theorem isNil_ct (k : Int) : Ct Tryz.prog 20 [.t .nilIface, .t (.iface 30 (.int .i64 k))] [] (.t (.bool false)) [] := by
  refine ⟨⟨_, Tryz.func20, rfl⟩, fun vs w g hr hi => ?_⟩
  obtain ⟨hlen, hrel⟩ := hr
  match vs, hlen with
  | [v1, v2], _ =>
    have r1 := rel_t_inv (hrel 0 v1 _ rfl rfl)
    have r2 := rel_t_inv (hrel 1 v2 _ rfl rfl)
    cases r1
    cases r2 with
    | iface _ p2 _ r2 =>
      cases r2
      refine (is_nil k w).mono ?_
      rintro ev w' ⟨rfl, rfl⟩
      exact ⟨_, g, rfl, Ext.refl _ _, .t _ _ (.bool _), hi⟩
end Go.Proofs.YtbcoodmafoalmaaGreatDoor
