/- Contracts and laws, joined: Ei, Em, En. No condition beside those that each theorem names. -/
import Derived.Test.YtbcoodmafoalmaaGreatDoorZE1
import Derived.Test.YtbcoodmafoalmaaGreatDoorZM1
import Derived.Defers
import Derived.Recover
import Derived.RegionCalls
set_option linter.unusedVariables false
set_option linter.unusedSimpArgs false
namespace Go.Proofs.YtbcoodmafoalmaaGreatDoor
open Go.RowKit Go.Extern.Stop Go.Stop Go.Extern Go.Am
structure Kept (w w' : World) : Prop where
  size : w.heap.size ≤ w'.heap.size
  old : ∀ blk, blk < w.heap.size → w'.heap[blk]? = w.heap[blk]?
  same : SameOs w w'
theorem Kept.refl (w : World) : Kept w w := ⟨Nat.le_refl _, fun _ _ => rfl, ⟨rfl, rfl⟩⟩
theorem Kept.alloc {w w1 : World} (h : Kept w w1) (o : Obj) : Kept w (w1.alloc o) where
  size := by have := h.size; simp; omega
  old blk hb := by
    have h1 := h.size
    rw [(More.alloc w1 o).old blk (by omega)]
    exact h.old blk hb
  same := h.same
theorem Kept.drew {w w1 : World} (h : Kept w w1) : Kept w w1.drew := ⟨h.size, h.old, h.same⟩
theorem Kept.set {w w1 : World} (h : Kept w w1) {a : Addr} (ha : w.heap.size ≤ a.block) (v : Value) : Kept w (w1.setCell a v) where
  size := by have := h.size; simp [World.setCell]; omega
  old blk hb := by rw [← h.old blk hb]; simp [World.setCell, Array.getElem?_modify]; omega
  same := h.same
theorem fcW_typeOf (v : Value) (w : World) : (ReflectliteType.typeOf #[.iface 115 v]).run Tryz.prog w = .ok (.iface 166 (.agg #[.pointer (some ⟨4, 115, none⟩)])) w := by kernel_rfl
theorem fcW_assignable (w : World) : (ReflectliteType.relation "AssignableTo" ReflectliteType.assignableTo #[.agg #[.pointer (some ⟨4, 115, none⟩)], .iface 166 (.agg #[.pointer (some ⟨4, 30, none⟩)])]).run Tryz.prog w = .ok (.bool false) w := by kernel_rfl
theorem fcW_hasAs (v : Value) (xT : TypeId) (w : World) : (Instr.typeAssert (.iface 115 v) xT 174 true).run Tryz.prog w = .ok (.tuple #[.iface 115 v, .bool true]) w := run_typeAssert_hasB Tryz.underlying174 (by kernel_rfl) v xT w
theorem fcW_methodAs (v : Value) (w : World) : (Go.method 654 115 v "As").run Tryz.prog w = .ok (379, v) w := by kernel_rfl
theorem fcC_typeOf (v : Value) (w : World) : (ReflectliteType.typeOf #[.iface 118 v]).run Tryz.prog w = .ok (.iface 166 (.agg #[.pointer (some ⟨4, 118, none⟩)])) w := by kernel_rfl
theorem fcC_assignable (w : World) : (ReflectliteType.relation "AssignableTo" ReflectliteType.assignableTo #[.agg #[.pointer (some ⟨4, 118, none⟩)], .iface 166 (.agg #[.pointer (some ⟨4, 30, none⟩)])]).run Tryz.prog w = .ok (.bool false) w := by kernel_rfl
theorem fcC_hasAs (v : Value) (xT : TypeId) (w : World) : (Instr.typeAssert (.iface 118 v) xT 174 true).run Tryz.prog w = .ok (.tuple #[.iface 118 v, .bool true]) w := run_typeAssert_hasB Tryz.underlying174 (by kernel_rfl) v xT w
theorem fcC_hasUnwrap (v : Value) (xT : TypeId) (w : World) : (Instr.typeAssert (.iface 118 v) xT 116 true).run Tryz.prog w = .ok (.tuple #[.iface 118 v, .bool true]) w := run_typeAssert_hasB Tryz.underlying116 (by kernel_rfl) v xT w
theorem fcC_methodAs (a b c : Value) (w : World) : (Go.method 654 118 (.agg #[a, b, c]) "As").run Tryz.prog w = .ok (379, .agg #[a, b]) w := by kernel_rfl
theorem fcC_methodUnwrap (v : Value) (w : World) : (Go.method 654 118 v "Unwrap").run Tryz.prog w = .ok (381, v) w := by kernel_rfl
theorem fcE_noUnwrap (v : Value) (xT : TypeId) (w : World) : (Instr.typeAssert (.iface 30 v) xT 116 true).run Tryz.prog w = .ok (.tuple #[.nilIface, .bool false]) w := run_typeAssert_lacksB Tryz.underlying116 (by kernel_rfl) (by kernel_rfl) v xT w
theorem fcE_noUnwraps (v : Value) (xT : TypeId) (w : World) : (Instr.typeAssert (.iface 30 v) xT 119 true).run Tryz.prog w = .ok (.tuple #[.nilIface, .bool false]) w := run_typeAssert_lacksB Tryz.underlying119 (by kernel_rfl) (by kernel_rfl) v xT w
theorem fcE_isE (v : Value) (xT : TypeId) (w : World) : (Instr.typeAssert (.iface 30 v) xT 30 true).run Tryz.prog w = .ok (.tuple #[v, .bool true]) w := by kernel_rfl
theorem fcT_isT (v : Value) (xT : TypeId) (w : World) : (Instr.typeAssert (.iface 80 v) xT 80 true).run Tryz.prog w = .ok (.tuple #[v, .bool true]) w := by kernel_rfl
/- the deferred closure finds no panic -/
theorem fc_idle (p : Addr) (w : World) :
    CallsD Tryz.prog 26 #[.pointer (some p)] .returning w fun e u' w' => e = .returned (.tuple #[]) ∧ u' = .returning ∧ w' = w := by
  refine callsD_of_wpS Tryz.func26 rfl fun c₀ cs hu => ?_
  apply wpS_seq
  apply wpS_region
  simp [wpOpsS, go_sem, recoverD, hu, Tryz.ntmps26, Exit.thenS]
  refine wpS_cond (t := false) (by simp [Act.eval, Array.replicate]) ?_
  simp only [Bool.false_eq_true, if_false]
  refine wpS_of_wp (wp_skip ?_)
  cases c₀
  simp_all [bodyPostS, results, Tryz.results26]
/- follow, at an error code -/
theorem fc_followE (n k : Int) (p : Addr) (w : World) (hp : w.cell? p = some (.int .i64 k)) (hf : w.frozen? p = false) (hk : (k == 0) = false) :
    Calls Tryz.prog 28 #[.iface 30 (.int .i64 n), .pointer (some p)] w fun e w' => e = .returned (.iface 115 (.agg #[.iface 30 (.int .i64 n), .pointer (some p)])) ∧
      w' = (w.setCell p (.int .i64 (wrap64 (k - 1)))).alloc (.cells #[.iface 30 (.int .i64 n), .pointer (some p)] 115) := by
  have hE1 := fcE_noUnwrap
  have hE2 := fcE_noUnwraps
  go_enter Tryz.func28, Tryz.ntmps28
  go_wp2
  go_ret
  exact ⟨rfl, rfl⟩
/- errors.As finds the code that is looked at -/
set_option maxRecDepth 100000 in
set_option maxHeartbeats 4000000 in
theorem fc_asW (p t : Addr) (n : Int) (old : Value) (w : World) (hg : w.cell? ⟨0, 0, none⟩ = some (.iface 166 (.agg #[.pointer (some ⟨4, 27, none⟩)]))) (ht0 : w.cell? t = some old) (hf0 : w.frozen? t = false) :
    Calls Tryz.prog 27 #[.iface 115 (.agg #[.iface 30 (.int .i64 n), .pointer (some p)]), .iface 80 (.pointer (some t))] w fun ev w' => ev = .returned (.bool true) ∧ w' = ((((w.alloc (.cells #[.pointer (some t)] 80)).alloc (.cells #[.pointer (some ⟨4, 80, none⟩), .pointer (some ⟨w.heap.size, 0, none⟩), .int .u64 150] 107)).alloc (.cells #[.pointer (some ⟨4, 80, none⟩), .pointer (some ⟨w.heap.size, 0, none⟩), .int .u64 150] 107)).alloc (.cells #[.iface 30 (.int .i64 n), .pointer (some p)] 115)).setCell t (.int .i64 n) := by
  have h6 := @run_callFunc_extern Tryz.prog 54 _ (fun args => ReflectliteValue.unpack (args.getD 0 (.tuple #[]))) Tryz.func54 (by kernel_rfl) (by kernel_rfl) (by kernel_rfl) (by kernel_rfl)
  have h7 := @run_callFunc_extern Tryz.prog 55 _ (ReflectliteValue.methodAny (ReflectliteValue.valueError "reflectlite.Value.Type" 0) (fun t _ _ _ => ReflectliteType.toType t)) Tryz.func55 (by kernel_rfl) (by kernel_rfl) (by kernel_rfl) (by kernel_rfl)
  have h8 := @run_callFunc_extern Tryz.prog 56 _ (ReflectliteValue.method (ReflectliteValue.valueError "reflectlite.Value.IsNil" 0) ReflectliteValue.isNil) Tryz.func56 (by kernel_rfl) (by kernel_rfl) (by kernel_rfl) (by kernel_rfl)
  have h27 := @run_callFunc_extern Tryz.prog 371 _ (ReflectliteType.abiMethod fun t => do pure (.int .u8 (← Rtype.kind t))) Tryz.func371 (by kernel_rfl) (by kernel_rfl) (by kernel_rfl) (by kernel_rfl)
  have h37 := @run_callFunc_extern Tryz.prog 390 _ (ReflectliteType.method ReflectliteType.elem) Tryz.func390 (by kernel_rfl) (by kernel_rfl) (by kernel_rfl) (by kernel_rfl)
  have h38 := @run_callFunc_extern Tryz.prog 391 _ (ReflectliteType.relation "Implements" ReflectliteType.implements_) Tryz.func391 (by kernel_rfl) (by kernel_rfl) (by kernel_rfl) (by kernel_rfl)
  have h10 := @run_callFunc_extern Tryz.prog 51 _ ReflectliteType.typeOf Tryz.func51 (by kernel_rfl) (by kernel_rfl) (by kernel_rfl) (by kernel_rfl)
  have h35 := @run_callFunc_extern Tryz.prog 388 _ (ReflectliteType.relation "AssignableTo" ReflectliteType.assignableTo) Tryz.func388 (by kernel_rfl) (by kernel_rfl) (by kernel_rfl) (by kernel_rfl)
  have mK := ea_methodKind
  have mE := ea_methodElem
  have mI := ea_methodImplements
  have mA := ea_methodAssignableTo
  have f6 := ea_valueOfP
  have f7 := ea_typeP
  have k27 := ea_kindP
  have k25 := ea_kindE
  have e27 := ea_elemP
  have i25 := ea_implementsE
  have tF := fcW_typeOf
  have aF := fcW_assignable
  have nA := fcW_hasAs
  have mU := fcW_methodAs
  have eE := fcE_isE
  have eT := fcT_isT
  have hlt : 0 < w.heap.size := World.block_lt_of_cell? _ _ hg
  have htl : t.block < w.heap.size := World.block_lt_of_cell? _ _ ht0
  have n8 := ea_isNilP ⟨w.heap.size, 0, none⟩ t ((w.alloc (.cells #[.pointer (some t)] 80)).alloc (.cells #[.pointer (some ⟨4, 80, none⟩), .pointer (some ⟨w.heap.size, 0, none⟩), .int .u64 150] 107)) (by simp)
  have hg2 : ((w.alloc (.cells #[.pointer (some t)] 80)).alloc (.cells #[.pointer (some ⟨4, 80, none⟩), .pointer (some ⟨w.heap.size, 0, none⟩), .int .u64 150] 107)).cell? ⟨0, 0, none⟩ = some (.iface 166 (.agg #[.pointer (some ⟨4, 27, none⟩)])) := by
    rw [World.cell?_alloc_lt _ _ ⟨0, 0, none⟩ (by simp), World.cell?_alloc_lt _ _ ⟨0, 0, none⟩ hlt]; exact hg
  have ht3 : ((((w.alloc (.cells #[.pointer (some t)] 80)).alloc (.cells #[.pointer (some ⟨4, 80, none⟩), .pointer (some ⟨w.heap.size, 0, none⟩), .int .u64 150] 107)).alloc (.cells #[.pointer (some ⟨4, 80, none⟩), .pointer (some ⟨w.heap.size, 0, none⟩), .int .u64 150] 107)).alloc (.cells #[.iface 30 (.int .i64 n), .pointer (some p)] 115)).cell? t = some old := by
    rw [World.cell?_alloc_lt _ _ t (by simp; omega), World.cell?_alloc_lt _ _ t (by simp; omega), World.cell?_alloc_lt _ _ t (by simp; omega), World.cell?_alloc_lt _ _ t htl]; exact ht0
  have hf3 : ((((w.alloc (.cells #[.pointer (some t)] 80)).alloc (.cells #[.pointer (some ⟨4, 80, none⟩), .pointer (some ⟨w.heap.size, 0, none⟩), .int .u64 150] 107)).alloc (.cells #[.pointer (some ⟨4, 80, none⟩), .pointer (some ⟨w.heap.size, 0, none⟩), .int .u64 150] 107)).alloc (.cells #[.iface 30 (.int .i64 n), .pointer (some p)] 115)).frozen? t = false := by
    rw [World.frozen?_alloc_old _ _ t (by simp; omega), World.frozen?_alloc_old _ _ t (by simp; omega), World.frozen?_alloc_old _ _ t (by simp; omega), World.frozen?_alloc_old _ _ t (Nat.ne_of_lt htl)]; exact hf0
  go_enter Tryz.func27, Tryz.ntmps27
  go_wp2
  refine wp_loop_rounds 2 ?_
  rw [rounds_succ]
  go_wp2
  go_ret
  exact ⟨rfl, rfl⟩
/- faults: written by gen_ei.py -/
theorem fcFault_notE (v : Value) (xT : TypeId) (w : World) : (Instr.typeAssert (.iface 68 v) xT 30 true).run Tryz.prog w = .ok (.tuple #[.int .i64 0, .bool false]) w := by kernel_rfl
theorem fcFault_noAs (v : Value) (xT : TypeId) (w : World) : (Instr.typeAssert (.iface 68 v) xT 174 true).run Tryz.prog w = .ok (.tuple #[.nilIface, .bool false]) w := run_typeAssert_lacksB Tryz.underlying174 (by kernel_rfl) (by kernel_rfl) v xT w
theorem fcFault_hasUnwrap (v : Value) (xT : TypeId) (w : World) : (Instr.typeAssert (.iface 68 v) xT 116 true).run Tryz.prog w = .ok (.tuple #[.iface 68 v, .bool true]) w := run_typeAssert_hasB Tryz.underlying116 (by kernel_rfl) v xT w
theorem fcFault_method (v : Value) (w : World) : (Go.method 654 68 v "Unwrap").run Tryz.prog w = .ok (375, v) w := by kernel_rfl
set_option maxRecDepth 100000 in
set_option maxHeartbeats 4000000 in
theorem fc_unFault (pb po : Nat) (p : Addr) (n k : Int) (w : World) (he : w.cell? ⟨pb, po + 2, none⟩ = some (.int .i64 n)) (hp : w.cell? p = some (.int .i64 k)) (hpf : w.frozen? p = false) (hk : (k == 0) = false) :
    Calls Tryz.prog 381 #[.agg #[.iface 68 (.pointer (some ⟨pb, po, none⟩)), .pointer (some p), .func (.method "Unwrap") #[.iface 68 (.pointer (some ⟨pb, po, none⟩))] #[]]] w fun ev w' => ev = .returned (.iface 115 (.agg #[.iface 30 (.int .i64 n), .pointer (some p)])) ∧ w' = (((w.alloc (.cells #[.iface 68 (.pointer (some ⟨pb, po, none⟩)), .pointer (some p), .func (.method "Unwrap") #[.iface 68 (.pointer (some ⟨pb, po, none⟩))] #[]] 118)).setCell p (.int .i64 (wrap64 (k - 1)))).alloc (.cells #[.iface 30 (.int .i64 n), .pointer (some p)] 115)).drew := by
  have gM := fcFault_method
  have hE1 := fcE_noUnwrap
  have hE2 := fcE_noUnwraps
  have hpl : pb < w.heap.size := World.block_lt_of_cell? _ _ he
  have hql : p.block < w.heap.size := World.block_lt_of_cell? _ _ hp
  have he5 : (w.alloc (.cells #[.iface 68 (.pointer (some ⟨pb, po, none⟩)), .pointer (some p), .func (.method "Unwrap") #[.iface 68 (.pointer (some ⟨pb, po, none⟩))] #[]] 118)).cell? ⟨pb, po + 2, none⟩ = some (.int .i64 n) := by
    rw [World.cell?_alloc_lt _ _ ⟨pb, po + 2, none⟩ hpl]; exact he
  have hp5 : (w.alloc (.cells #[.iface 68 (.pointer (some ⟨pb, po, none⟩)), .pointer (some p), .func (.method "Unwrap") #[.iface 68 (.pointer (some ⟨pb, po, none⟩))] #[]] 118)).cell? p = some (.int .i64 k) := by
    rw [World.cell?_alloc_lt _ _ p hql]; exact hp
  have hq5 : (w.alloc (.cells #[.iface 68 (.pointer (some ⟨pb, po, none⟩)), .pointer (some p), .func (.method "Unwrap") #[.iface 68 (.pointer (some ⟨pb, po, none⟩))] #[]] 118)).frozen? p = false := by
    rw [World.frozen?_alloc_old _ _ p (Nat.ne_of_lt hql)]; exact hpf
  go_enter Tryz.func381, Tryz.ntmps381
  go_wp2
  go_region_calls
  all_goals (try go_wp2)
  all_goals go_ret
  all_goals (first | exact ⟨rfl, rfl⟩ | simp [wrap64, Act.put, IntKind.wrap_i64])
set_option maxRecDepth 100000 in
set_option maxHeartbeats 4000000 in
theorem fc_asFault (pb po : Nat) (p t : Addr) (n k : Int) (old : Value) (w : World) (hg : w.cell? ⟨0, 0, none⟩ = some (.iface 166 (.agg #[.pointer (some ⟨4, 27, none⟩)]))) (he : w.cell? ⟨pb, po + 2, none⟩ = some (.int .i64 n)) (hp : w.cell? p = some (.int .i64 k)) (hpf : w.frozen? p = false) (hk : (k == 0) = false) (ht0 : w.cell? t = some old) (hf0 : w.frozen? t = false) (hpt : p.block ≠ t.block) :
    Calls Tryz.prog 27 #[.iface 118 (.agg #[.iface 68 (.pointer (some ⟨pb, po, none⟩)), .pointer (some p), .func (.method "Unwrap") #[.iface 68 (.pointer (some ⟨pb, po, none⟩))] #[]]), .iface 80 (.pointer (some t))] w fun ev w' => ev = .returned (.bool true) ∧ w' = (((((((((w.alloc (.cells #[.pointer (some t)] 80)).alloc (.cells #[.pointer (some ⟨4, 80, none⟩), .pointer (some ⟨w.heap.size, 0, none⟩), .int .u64 150] 107)).alloc (.cells #[.pointer (some ⟨4, 80, none⟩), .pointer (some ⟨w.heap.size, 0, none⟩), .int .u64 150] 107)).alloc (.cells #[.iface 68 (.pointer (some ⟨pb, po, none⟩)), .pointer (some p)] 115)).alloc (.cells #[.iface 68 (.pointer (some ⟨pb, po, none⟩)), .pointer (some p), .func (.method "Unwrap") #[.iface 68 (.pointer (some ⟨pb, po, none⟩))] #[]] 118)).setCell p (.int .i64 (wrap64 (k - 1)))).alloc (.cells #[.iface 30 (.int .i64 n), .pointer (some p)] 115)).alloc (.cells #[.iface 30 (.int .i64 n), .pointer (some p)] 115)).setCell t (.int .i64 n)).drew := by
  have h6 := @run_callFunc_extern Tryz.prog 54 _ (fun args => ReflectliteValue.unpack (args.getD 0 (.tuple #[]))) Tryz.func54 (by kernel_rfl) (by kernel_rfl) (by kernel_rfl) (by kernel_rfl)
  have h7 := @run_callFunc_extern Tryz.prog 55 _ (ReflectliteValue.methodAny (ReflectliteValue.valueError "reflectlite.Value.Type" 0) (fun t _ _ _ => ReflectliteType.toType t)) Tryz.func55 (by kernel_rfl) (by kernel_rfl) (by kernel_rfl) (by kernel_rfl)
  have h8 := @run_callFunc_extern Tryz.prog 56 _ (ReflectliteValue.method (ReflectliteValue.valueError "reflectlite.Value.IsNil" 0) ReflectliteValue.isNil) Tryz.func56 (by kernel_rfl) (by kernel_rfl) (by kernel_rfl) (by kernel_rfl)
  have h27 := @run_callFunc_extern Tryz.prog 371 _ (ReflectliteType.abiMethod fun t => do pure (.int .u8 (← Rtype.kind t))) Tryz.func371 (by kernel_rfl) (by kernel_rfl) (by kernel_rfl) (by kernel_rfl)
  have h37 := @run_callFunc_extern Tryz.prog 390 _ (ReflectliteType.method ReflectliteType.elem) Tryz.func390 (by kernel_rfl) (by kernel_rfl) (by kernel_rfl) (by kernel_rfl)
  have h38 := @run_callFunc_extern Tryz.prog 391 _ (ReflectliteType.relation "Implements" ReflectliteType.implements_) Tryz.func391 (by kernel_rfl) (by kernel_rfl) (by kernel_rfl) (by kernel_rfl)
  have h10 := @run_callFunc_extern Tryz.prog 51 _ ReflectliteType.typeOf Tryz.func51 (by kernel_rfl) (by kernel_rfl) (by kernel_rfl) (by kernel_rfl)
  have h35 := @run_callFunc_extern Tryz.prog 388 _ (ReflectliteType.relation "AssignableTo" ReflectliteType.assignableTo) Tryz.func388 (by kernel_rfl) (by kernel_rfl) (by kernel_rfl) (by kernel_rfl)
  have mK := ea_methodKind
  have mE := ea_methodElem
  have mI := ea_methodImplements
  have mA := ea_methodAssignableTo
  have f6 := ea_valueOfP
  have f7 := ea_typeP
  have k27 := ea_kindP
  have k25 := ea_kindE
  have e27 := ea_elemP
  have i25 := ea_implementsE
  have tF := fcW_typeOf
  have aF := fcW_assignable
  have nA := fcW_hasAs
  have mU := fcW_methodAs
  have eE := fcE_isE
  have eT := fcT_isT
  have hlt : 0 < w.heap.size := World.block_lt_of_cell? _ _ hg
  have htl : t.block < w.heap.size := World.block_lt_of_cell? _ _ ht0
  have tC := fcC_typeOf
  have aC := fcC_assignable
  have nC := fcC_hasAs
  have uC := fcC_hasUnwrap
  have mC := fcC_methodAs
  have mD := fcC_methodUnwrap
  have gE := fcFault_notE
  have gA := fcFault_noAs
  have hpl : pb < w.heap.size := World.block_lt_of_cell? _ _ he
  have hql : p.block < w.heap.size := World.block_lt_of_cell? _ _ hp
  have n8 := ea_isNilP ⟨w.heap.size, 0, none⟩ t ((w.alloc (.cells #[.pointer (some t)] 80)).alloc (.cells #[.pointer (some ⟨4, 80, none⟩), .pointer (some ⟨w.heap.size, 0, none⟩), .int .u64 150] 107)) (by simp)
  have hg2 : ((w.alloc (.cells #[.pointer (some t)] 80)).alloc (.cells #[.pointer (some ⟨4, 80, none⟩), .pointer (some ⟨w.heap.size, 0, none⟩), .int .u64 150] 107)).cell? ⟨0, 0, none⟩ = some (.iface 166 (.agg #[.pointer (some ⟨4, 27, none⟩)])) := by
    rw [World.cell?_alloc_lt _ _ ⟨0, 0, none⟩ (by simp), World.cell?_alloc_lt _ _ ⟨0, 0, none⟩ hlt]; exact hg
  have he4 : ((((w.alloc (.cells #[.pointer (some t)] 80)).alloc (.cells #[.pointer (some ⟨4, 80, none⟩), .pointer (some ⟨w.heap.size, 0, none⟩), .int .u64 150] 107)).alloc (.cells #[.pointer (some ⟨4, 80, none⟩), .pointer (some ⟨w.heap.size, 0, none⟩), .int .u64 150] 107)).alloc (.cells #[.iface 68 (.pointer (some ⟨pb, po, none⟩)), .pointer (some p)] 115)).cell? ⟨pb, po + 2, none⟩ = some (.int .i64 n) := by
    rw [World.cell?_alloc_lt _ _ ⟨pb, po + 2, none⟩ (by simp; omega), World.cell?_alloc_lt _ _ ⟨pb, po + 2, none⟩ (by simp; omega), World.cell?_alloc_lt _ _ ⟨pb, po + 2, none⟩ (by simp; omega), World.cell?_alloc_lt _ _ ⟨pb, po + 2, none⟩ hpl]; exact he
  have hp4 : ((((w.alloc (.cells #[.pointer (some t)] 80)).alloc (.cells #[.pointer (some ⟨4, 80, none⟩), .pointer (some ⟨w.heap.size, 0, none⟩), .int .u64 150] 107)).alloc (.cells #[.pointer (some ⟨4, 80, none⟩), .pointer (some ⟨w.heap.size, 0, none⟩), .int .u64 150] 107)).alloc (.cells #[.iface 68 (.pointer (some ⟨pb, po, none⟩)), .pointer (some p)] 115)).cell? p = some (.int .i64 k) := by
    rw [World.cell?_alloc_lt _ _ p (by simp; omega), World.cell?_alloc_lt _ _ p (by simp; omega), World.cell?_alloc_lt _ _ p (by simp; omega), World.cell?_alloc_lt _ _ p hql]; exact hp
  have hq4 : ((((w.alloc (.cells #[.pointer (some t)] 80)).alloc (.cells #[.pointer (some ⟨4, 80, none⟩), .pointer (some ⟨w.heap.size, 0, none⟩), .int .u64 150] 107)).alloc (.cells #[.pointer (some ⟨4, 80, none⟩), .pointer (some ⟨w.heap.size, 0, none⟩), .int .u64 150] 107)).alloc (.cells #[.iface 68 (.pointer (some ⟨pb, po, none⟩)), .pointer (some p)] 115)).frozen? p = false := by
    rw [World.frozen?_alloc_old _ _ p (by simp; omega), World.frozen?_alloc_old _ _ p (by simp; omega), World.frozen?_alloc_old _ _ p (by simp; omega), World.frozen?_alloc_old _ _ p (Nat.ne_of_lt hql)]; exact hpf
  have ht4 : ((((w.alloc (.cells #[.pointer (some t)] 80)).alloc (.cells #[.pointer (some ⟨4, 80, none⟩), .pointer (some ⟨w.heap.size, 0, none⟩), .int .u64 150] 107)).alloc (.cells #[.pointer (some ⟨4, 80, none⟩), .pointer (some ⟨w.heap.size, 0, none⟩), .int .u64 150] 107)).alloc (.cells #[.iface 68 (.pointer (some ⟨pb, po, none⟩)), .pointer (some p)] 115)).cell? t = some old := by
    rw [World.cell?_alloc_lt _ _ t (by simp; omega), World.cell?_alloc_lt _ _ t (by simp; omega), World.cell?_alloc_lt _ _ t (by simp; omega), World.cell?_alloc_lt _ _ t htl]; exact ht0
  have hf4 : ((((w.alloc (.cells #[.pointer (some t)] 80)).alloc (.cells #[.pointer (some ⟨4, 80, none⟩), .pointer (some ⟨w.heap.size, 0, none⟩), .int .u64 150] 107)).alloc (.cells #[.pointer (some ⟨4, 80, none⟩), .pointer (some ⟨w.heap.size, 0, none⟩), .int .u64 150] 107)).alloc (.cells #[.iface 68 (.pointer (some ⟨pb, po, none⟩)), .pointer (some p)] 115)).frozen? t = false := by
    rw [World.frozen?_alloc_old _ _ t (by simp; omega), World.frozen?_alloc_old _ _ t (by simp; omega), World.frozen?_alloc_old _ _ t (by simp; omega), World.frozen?_alloc_old _ _ t (Nat.ne_of_lt htl)]; exact hf0
  go_enter Tryz.func27, Tryz.ntmps27
  go_wp2
  refine wp_loop_rounds 3 ?_
  rw [rounds_succ]
  go_wp2_with (first | (go_at_call 381; refine (fc_unFault pb po p n k _ he4 hp4 hq4 hk).mono ?_; rintro e w' ⟨rfl, rfl⟩) | (go_at_call 379; go_in))
  have hne : p ≠ t := fun e => hpt (by rw [e])
  have ht5 : ((((((((w.alloc (.cells #[.pointer (some t)] 80)).alloc (.cells #[.pointer (some ⟨4, 80, none⟩), .pointer (some ⟨w.heap.size, 0, none⟩), .int .u64 150] 107)).alloc (.cells #[.pointer (some ⟨4, 80, none⟩), .pointer (some ⟨w.heap.size, 0, none⟩), .int .u64 150] 107)).alloc (.cells #[.iface 68 (.pointer (some ⟨pb, po, none⟩)), .pointer (some p)] 115)).alloc (.cells #[.iface 68 (.pointer (some ⟨pb, po, none⟩)), .pointer (some p), .func (.method "Unwrap") #[.iface 68 (.pointer (some ⟨pb, po, none⟩))] #[]] 118)).setCell p (.int .i64 (wrap64 (k - 1)))).alloc (.cells #[.iface 30 (.int .i64 n), .pointer (some p)] 115)).alloc (.cells #[.iface 30 (.int .i64 n), .pointer (some p)] 115)).cell? t = some old := by
    rw [World.cell?_alloc_lt _ _ t (by simp; omega), World.cell?_alloc_lt _ _ t (by simp; omega)]
    first | rw [World.cell?_setCell_other _ _ _ _ hne] | rw [World.cell?_setCell_other _ _ _ hne] | rw [World.cell?_setCell_other _ _ hne] | rw [World.cell?_setCell_other _ hne]
    rw [World.cell?_alloc_lt _ _ t (by simp; omega)]; exact ht4
  have hf5 : ((((((((w.alloc (.cells #[.pointer (some t)] 80)).alloc (.cells #[.pointer (some ⟨4, 80, none⟩), .pointer (some ⟨w.heap.size, 0, none⟩), .int .u64 150] 107)).alloc (.cells #[.pointer (some ⟨4, 80, none⟩), .pointer (some ⟨w.heap.size, 0, none⟩), .int .u64 150] 107)).alloc (.cells #[.iface 68 (.pointer (some ⟨pb, po, none⟩)), .pointer (some p)] 115)).alloc (.cells #[.iface 68 (.pointer (some ⟨pb, po, none⟩)), .pointer (some p), .func (.method "Unwrap") #[.iface 68 (.pointer (some ⟨pb, po, none⟩))] #[]] 118)).setCell p (.int .i64 (wrap64 (k - 1)))).alloc (.cells #[.iface 30 (.int .i64 n), .pointer (some p)] 115)).alloc (.cells #[.iface 30 (.int .i64 n), .pointer (some p)] 115)).frozen? t = false := by
    rw [World.frozen?_alloc_old _ _ t (by simp; omega), World.frozen?_alloc_old _ _ t (by simp; omega), World.frozen?_setCell, World.frozen?_alloc_old _ _ t (by simp; omega)]; exact hf4
  rw [rounds_succ]
  go_wp2
  go_ret
  exact ⟨rfl, rfl⟩
theorem fcBoot_notE (v : Value) (xT : TypeId) (w : World) : (Instr.typeAssert (.iface 123 v) xT 30 true).run Tryz.prog w = .ok (.tuple #[.int .i64 0, .bool false]) w := by kernel_rfl
theorem fcBoot_noAs (v : Value) (xT : TypeId) (w : World) : (Instr.typeAssert (.iface 123 v) xT 174 true).run Tryz.prog w = .ok (.tuple #[.nilIface, .bool false]) w := run_typeAssert_lacksB Tryz.underlying174 (by kernel_rfl) (by kernel_rfl) v xT w
theorem fcBoot_hasUnwrap (v : Value) (xT : TypeId) (w : World) : (Instr.typeAssert (.iface 123 v) xT 116 true).run Tryz.prog w = .ok (.tuple #[.iface 123 v, .bool true]) w := run_typeAssert_hasB Tryz.underlying116 (by kernel_rfl) v xT w
theorem fcBoot_method (v : Value) (w : World) : (Go.method 654 123 v "Unwrap").run Tryz.prog w = .ok (384, v) w := by kernel_rfl
set_option maxRecDepth 100000 in
set_option maxHeartbeats 4000000 in
theorem fc_unBoot (pb po : Nat) (p : Addr) (n k : Int) (w : World) (he : w.cell? ⟨pb, po + 1, none⟩ = some (.int .i64 n)) (hp : w.cell? p = some (.int .i64 k)) (hpf : w.frozen? p = false) (hk : (k == 0) = false) :
    Calls Tryz.prog 381 #[.agg #[.iface 123 (.pointer (some ⟨pb, po, none⟩)), .pointer (some p), .func (.method "Unwrap") #[.iface 123 (.pointer (some ⟨pb, po, none⟩))] #[]]] w fun ev w' => ev = .returned (.iface 115 (.agg #[.iface 30 (.int .i64 n), .pointer (some p)])) ∧ w' = (((w.alloc (.cells #[.iface 123 (.pointer (some ⟨pb, po, none⟩)), .pointer (some p), .func (.method "Unwrap") #[.iface 123 (.pointer (some ⟨pb, po, none⟩))] #[]] 118)).setCell p (.int .i64 (wrap64 (k - 1)))).alloc (.cells #[.iface 30 (.int .i64 n), .pointer (some p)] 115)).drew := by
  have gM := fcBoot_method
  have hE1 := fcE_noUnwrap
  have hE2 := fcE_noUnwraps
  have hpl : pb < w.heap.size := World.block_lt_of_cell? _ _ he
  have hql : p.block < w.heap.size := World.block_lt_of_cell? _ _ hp
  have he5 : (w.alloc (.cells #[.iface 123 (.pointer (some ⟨pb, po, none⟩)), .pointer (some p), .func (.method "Unwrap") #[.iface 123 (.pointer (some ⟨pb, po, none⟩))] #[]] 118)).cell? ⟨pb, po + 1, none⟩ = some (.int .i64 n) := by
    rw [World.cell?_alloc_lt _ _ ⟨pb, po + 1, none⟩ hpl]; exact he
  have hp5 : (w.alloc (.cells #[.iface 123 (.pointer (some ⟨pb, po, none⟩)), .pointer (some p), .func (.method "Unwrap") #[.iface 123 (.pointer (some ⟨pb, po, none⟩))] #[]] 118)).cell? p = some (.int .i64 k) := by
    rw [World.cell?_alloc_lt _ _ p hql]; exact hp
  have hq5 : (w.alloc (.cells #[.iface 123 (.pointer (some ⟨pb, po, none⟩)), .pointer (some p), .func (.method "Unwrap") #[.iface 123 (.pointer (some ⟨pb, po, none⟩))] #[]] 118)).frozen? p = false := by
    rw [World.frozen?_alloc_old _ _ p (Nat.ne_of_lt hql)]; exact hpf
  go_enter Tryz.func381, Tryz.ntmps381
  go_wp2
  go_region_calls
  all_goals (try go_wp2)
  all_goals go_ret
  all_goals (first | exact ⟨rfl, rfl⟩ | simp [wrap64, Act.put, IntKind.wrap_i64])
set_option maxRecDepth 100000 in
set_option maxHeartbeats 4000000 in
theorem fc_asBoot (pb po : Nat) (p t : Addr) (n k : Int) (old : Value) (w : World) (hg : w.cell? ⟨0, 0, none⟩ = some (.iface 166 (.agg #[.pointer (some ⟨4, 27, none⟩)]))) (he : w.cell? ⟨pb, po + 1, none⟩ = some (.int .i64 n)) (hp : w.cell? p = some (.int .i64 k)) (hpf : w.frozen? p = false) (hk : (k == 0) = false) (ht0 : w.cell? t = some old) (hf0 : w.frozen? t = false) (hpt : p.block ≠ t.block) :
    Calls Tryz.prog 27 #[.iface 118 (.agg #[.iface 123 (.pointer (some ⟨pb, po, none⟩)), .pointer (some p), .func (.method "Unwrap") #[.iface 123 (.pointer (some ⟨pb, po, none⟩))] #[]]), .iface 80 (.pointer (some t))] w fun ev w' => ev = .returned (.bool true) ∧ w' = (((((((((w.alloc (.cells #[.pointer (some t)] 80)).alloc (.cells #[.pointer (some ⟨4, 80, none⟩), .pointer (some ⟨w.heap.size, 0, none⟩), .int .u64 150] 107)).alloc (.cells #[.pointer (some ⟨4, 80, none⟩), .pointer (some ⟨w.heap.size, 0, none⟩), .int .u64 150] 107)).alloc (.cells #[.iface 123 (.pointer (some ⟨pb, po, none⟩)), .pointer (some p)] 115)).alloc (.cells #[.iface 123 (.pointer (some ⟨pb, po, none⟩)), .pointer (some p), .func (.method "Unwrap") #[.iface 123 (.pointer (some ⟨pb, po, none⟩))] #[]] 118)).setCell p (.int .i64 (wrap64 (k - 1)))).alloc (.cells #[.iface 30 (.int .i64 n), .pointer (some p)] 115)).alloc (.cells #[.iface 30 (.int .i64 n), .pointer (some p)] 115)).setCell t (.int .i64 n)).drew := by
  have h6 := @run_callFunc_extern Tryz.prog 54 _ (fun args => ReflectliteValue.unpack (args.getD 0 (.tuple #[]))) Tryz.func54 (by kernel_rfl) (by kernel_rfl) (by kernel_rfl) (by kernel_rfl)
  have h7 := @run_callFunc_extern Tryz.prog 55 _ (ReflectliteValue.methodAny (ReflectliteValue.valueError "reflectlite.Value.Type" 0) (fun t _ _ _ => ReflectliteType.toType t)) Tryz.func55 (by kernel_rfl) (by kernel_rfl) (by kernel_rfl) (by kernel_rfl)
  have h8 := @run_callFunc_extern Tryz.prog 56 _ (ReflectliteValue.method (ReflectliteValue.valueError "reflectlite.Value.IsNil" 0) ReflectliteValue.isNil) Tryz.func56 (by kernel_rfl) (by kernel_rfl) (by kernel_rfl) (by kernel_rfl)
  have h27 := @run_callFunc_extern Tryz.prog 371 _ (ReflectliteType.abiMethod fun t => do pure (.int .u8 (← Rtype.kind t))) Tryz.func371 (by kernel_rfl) (by kernel_rfl) (by kernel_rfl) (by kernel_rfl)
  have h37 := @run_callFunc_extern Tryz.prog 390 _ (ReflectliteType.method ReflectliteType.elem) Tryz.func390 (by kernel_rfl) (by kernel_rfl) (by kernel_rfl) (by kernel_rfl)
  have h38 := @run_callFunc_extern Tryz.prog 391 _ (ReflectliteType.relation "Implements" ReflectliteType.implements_) Tryz.func391 (by kernel_rfl) (by kernel_rfl) (by kernel_rfl) (by kernel_rfl)
  have h10 := @run_callFunc_extern Tryz.prog 51 _ ReflectliteType.typeOf Tryz.func51 (by kernel_rfl) (by kernel_rfl) (by kernel_rfl) (by kernel_rfl)
  have h35 := @run_callFunc_extern Tryz.prog 388 _ (ReflectliteType.relation "AssignableTo" ReflectliteType.assignableTo) Tryz.func388 (by kernel_rfl) (by kernel_rfl) (by kernel_rfl) (by kernel_rfl)
  have mK := ea_methodKind
  have mE := ea_methodElem
  have mI := ea_methodImplements
  have mA := ea_methodAssignableTo
  have f6 := ea_valueOfP
  have f7 := ea_typeP
  have k27 := ea_kindP
  have k25 := ea_kindE
  have e27 := ea_elemP
  have i25 := ea_implementsE
  have tF := fcW_typeOf
  have aF := fcW_assignable
  have nA := fcW_hasAs
  have mU := fcW_methodAs
  have eE := fcE_isE
  have eT := fcT_isT
  have hlt : 0 < w.heap.size := World.block_lt_of_cell? _ _ hg
  have htl : t.block < w.heap.size := World.block_lt_of_cell? _ _ ht0
  have tC := fcC_typeOf
  have aC := fcC_assignable
  have nC := fcC_hasAs
  have uC := fcC_hasUnwrap
  have mC := fcC_methodAs
  have mD := fcC_methodUnwrap
  have gE := fcBoot_notE
  have gA := fcBoot_noAs
  have hpl : pb < w.heap.size := World.block_lt_of_cell? _ _ he
  have hql : p.block < w.heap.size := World.block_lt_of_cell? _ _ hp
  have n8 := ea_isNilP ⟨w.heap.size, 0, none⟩ t ((w.alloc (.cells #[.pointer (some t)] 80)).alloc (.cells #[.pointer (some ⟨4, 80, none⟩), .pointer (some ⟨w.heap.size, 0, none⟩), .int .u64 150] 107)) (by simp)
  have hg2 : ((w.alloc (.cells #[.pointer (some t)] 80)).alloc (.cells #[.pointer (some ⟨4, 80, none⟩), .pointer (some ⟨w.heap.size, 0, none⟩), .int .u64 150] 107)).cell? ⟨0, 0, none⟩ = some (.iface 166 (.agg #[.pointer (some ⟨4, 27, none⟩)])) := by
    rw [World.cell?_alloc_lt _ _ ⟨0, 0, none⟩ (by simp), World.cell?_alloc_lt _ _ ⟨0, 0, none⟩ hlt]; exact hg
  have he4 : ((((w.alloc (.cells #[.pointer (some t)] 80)).alloc (.cells #[.pointer (some ⟨4, 80, none⟩), .pointer (some ⟨w.heap.size, 0, none⟩), .int .u64 150] 107)).alloc (.cells #[.pointer (some ⟨4, 80, none⟩), .pointer (some ⟨w.heap.size, 0, none⟩), .int .u64 150] 107)).alloc (.cells #[.iface 123 (.pointer (some ⟨pb, po, none⟩)), .pointer (some p)] 115)).cell? ⟨pb, po + 1, none⟩ = some (.int .i64 n) := by
    rw [World.cell?_alloc_lt _ _ ⟨pb, po + 1, none⟩ (by simp; omega), World.cell?_alloc_lt _ _ ⟨pb, po + 1, none⟩ (by simp; omega), World.cell?_alloc_lt _ _ ⟨pb, po + 1, none⟩ (by simp; omega), World.cell?_alloc_lt _ _ ⟨pb, po + 1, none⟩ hpl]; exact he
  have hp4 : ((((w.alloc (.cells #[.pointer (some t)] 80)).alloc (.cells #[.pointer (some ⟨4, 80, none⟩), .pointer (some ⟨w.heap.size, 0, none⟩), .int .u64 150] 107)).alloc (.cells #[.pointer (some ⟨4, 80, none⟩), .pointer (some ⟨w.heap.size, 0, none⟩), .int .u64 150] 107)).alloc (.cells #[.iface 123 (.pointer (some ⟨pb, po, none⟩)), .pointer (some p)] 115)).cell? p = some (.int .i64 k) := by
    rw [World.cell?_alloc_lt _ _ p (by simp; omega), World.cell?_alloc_lt _ _ p (by simp; omega), World.cell?_alloc_lt _ _ p (by simp; omega), World.cell?_alloc_lt _ _ p hql]; exact hp
  have hq4 : ((((w.alloc (.cells #[.pointer (some t)] 80)).alloc (.cells #[.pointer (some ⟨4, 80, none⟩), .pointer (some ⟨w.heap.size, 0, none⟩), .int .u64 150] 107)).alloc (.cells #[.pointer (some ⟨4, 80, none⟩), .pointer (some ⟨w.heap.size, 0, none⟩), .int .u64 150] 107)).alloc (.cells #[.iface 123 (.pointer (some ⟨pb, po, none⟩)), .pointer (some p)] 115)).frozen? p = false := by
    rw [World.frozen?_alloc_old _ _ p (by simp; omega), World.frozen?_alloc_old _ _ p (by simp; omega), World.frozen?_alloc_old _ _ p (by simp; omega), World.frozen?_alloc_old _ _ p (Nat.ne_of_lt hql)]; exact hpf
  have ht4 : ((((w.alloc (.cells #[.pointer (some t)] 80)).alloc (.cells #[.pointer (some ⟨4, 80, none⟩), .pointer (some ⟨w.heap.size, 0, none⟩), .int .u64 150] 107)).alloc (.cells #[.pointer (some ⟨4, 80, none⟩), .pointer (some ⟨w.heap.size, 0, none⟩), .int .u64 150] 107)).alloc (.cells #[.iface 123 (.pointer (some ⟨pb, po, none⟩)), .pointer (some p)] 115)).cell? t = some old := by
    rw [World.cell?_alloc_lt _ _ t (by simp; omega), World.cell?_alloc_lt _ _ t (by simp; omega), World.cell?_alloc_lt _ _ t (by simp; omega), World.cell?_alloc_lt _ _ t htl]; exact ht0
  have hf4 : ((((w.alloc (.cells #[.pointer (some t)] 80)).alloc (.cells #[.pointer (some ⟨4, 80, none⟩), .pointer (some ⟨w.heap.size, 0, none⟩), .int .u64 150] 107)).alloc (.cells #[.pointer (some ⟨4, 80, none⟩), .pointer (some ⟨w.heap.size, 0, none⟩), .int .u64 150] 107)).alloc (.cells #[.iface 123 (.pointer (some ⟨pb, po, none⟩)), .pointer (some p)] 115)).frozen? t = false := by
    rw [World.frozen?_alloc_old _ _ t (by simp; omega), World.frozen?_alloc_old _ _ t (by simp; omega), World.frozen?_alloc_old _ _ t (by simp; omega), World.frozen?_alloc_old _ _ t (Nat.ne_of_lt htl)]; exact hf0
  go_enter Tryz.func27, Tryz.ntmps27
  go_wp2
  refine wp_loop_rounds 3 ?_
  rw [rounds_succ]
  go_wp2_with (first | (go_at_call 381; refine (fc_unBoot pb po p n k _ he4 hp4 hq4 hk).mono ?_; rintro e w' ⟨rfl, rfl⟩) | (go_at_call 379; go_in))
  have hne : p ≠ t := fun e => hpt (by rw [e])
  have ht5 : ((((((((w.alloc (.cells #[.pointer (some t)] 80)).alloc (.cells #[.pointer (some ⟨4, 80, none⟩), .pointer (some ⟨w.heap.size, 0, none⟩), .int .u64 150] 107)).alloc (.cells #[.pointer (some ⟨4, 80, none⟩), .pointer (some ⟨w.heap.size, 0, none⟩), .int .u64 150] 107)).alloc (.cells #[.iface 123 (.pointer (some ⟨pb, po, none⟩)), .pointer (some p)] 115)).alloc (.cells #[.iface 123 (.pointer (some ⟨pb, po, none⟩)), .pointer (some p), .func (.method "Unwrap") #[.iface 123 (.pointer (some ⟨pb, po, none⟩))] #[]] 118)).setCell p (.int .i64 (wrap64 (k - 1)))).alloc (.cells #[.iface 30 (.int .i64 n), .pointer (some p)] 115)).alloc (.cells #[.iface 30 (.int .i64 n), .pointer (some p)] 115)).cell? t = some old := by
    rw [World.cell?_alloc_lt _ _ t (by simp; omega), World.cell?_alloc_lt _ _ t (by simp; omega)]
    first | rw [World.cell?_setCell_other _ _ _ _ hne] | rw [World.cell?_setCell_other _ _ _ hne] | rw [World.cell?_setCell_other _ _ hne] | rw [World.cell?_setCell_other _ hne]
    rw [World.cell?_alloc_lt _ _ t (by simp; omega)]; exact ht4
  have hf5 : ((((((((w.alloc (.cells #[.pointer (some t)] 80)).alloc (.cells #[.pointer (some ⟨4, 80, none⟩), .pointer (some ⟨w.heap.size, 0, none⟩), .int .u64 150] 107)).alloc (.cells #[.pointer (some ⟨4, 80, none⟩), .pointer (some ⟨w.heap.size, 0, none⟩), .int .u64 150] 107)).alloc (.cells #[.iface 123 (.pointer (some ⟨pb, po, none⟩)), .pointer (some p)] 115)).alloc (.cells #[.iface 123 (.pointer (some ⟨pb, po, none⟩)), .pointer (some p), .func (.method "Unwrap") #[.iface 123 (.pointer (some ⟨pb, po, none⟩))] #[]] 118)).setCell p (.int .i64 (wrap64 (k - 1)))).alloc (.cells #[.iface 30 (.int .i64 n), .pointer (some p)] 115)).alloc (.cells #[.iface 30 (.int .i64 n), .pointer (some p)] 115)).frozen? t = false := by
    rw [World.frozen?_alloc_old _ _ t (by simp; omega), World.frozen?_alloc_old _ _ t (by simp; omega), World.frozen?_setCell, World.frozen?_alloc_old _ _ t (by simp; omega)]; exact hf4
  rw [rounds_succ]
  go_wp2
  go_ret
  exact ⟨rfl, rfl⟩
end Go.Proofs.YtbcoodmafoalmaaGreatDoor

namespace Go.Proofs.YtbcoodmafoalmaaGreatDoor
open Go.RowKit Go.Extern.Stop Go.Stop Go.Extern Go.Am
/- what errors.As leaves: the code at t; all else as it was, but for p -/
structure Aft (p t : Addr) (n : Int) (w w' : World) : Prop where
  now : w'.cell? t = some (.int .i64 n)
  old : ∀ a : Addr, a.block < w.heap.size → a.block ≠ t.block → a.block ≠ p.block → w'.cell? a = w.cell? a ∧ w'.frozen? a = w.frozen? a
  kept : ∀ W0, Kept W0 w → W0.heap.size ≤ t.block → W0.heap.size ≤ p.block → Kept W0 w'
theorem cell_set {w : World} {p a : Addr} {v : Value} (h : a.block ≠ p.block) : (w.setCell p v).cell? a = w.cell? a := by
  have hne : p ≠ a := fun e => h (by rw [e])
  first | exact World.cell?_setCell_other _ _ _ _ hne | exact World.cell?_setCell_other _ _ _ hne | exact World.cell?_setCell_other _ _ hne | exact World.cell?_setCell_other _ hne
theorem cell_drew {w : World} {a : Addr} : w.drew.cell? a = w.cell? a := rfl
theorem frozen_drew {w : World} {a : Addr} : w.drew.frozen? a = w.frozen? a := rfl
theorem fc_asW2 (p t : Addr) (n : Int) (old : Value) (w : World) (hg : w.cell? ⟨0, 0, none⟩ = some (.iface 166 (.agg #[.pointer (some ⟨4, 27, none⟩)]))) (ht0 : w.cell? t = some old) (hf0 : w.frozen? t = false) :
    Calls Tryz.prog 27 #[.iface 115 (.agg #[.iface 30 (.int .i64 n), .pointer (some p)]), .iface 80 (.pointer (some t))] w fun ev w' => ev = .returned (.bool true) ∧ Aft p t n w w' := by
  have htl : t.block < w.heap.size := World.block_lt_of_cell? _ _ ht0
  refine (fc_asW p t n old w hg ht0 hf0).mono ?_
  rintro ev w' ⟨rfl, rfl⟩
  refine ⟨rfl, ⟨?_, fun a ha h1 h2 => ?_, fun W0 hk h1 h2 => ?_⟩⟩
  · refine World.cell?_setCell_same _ _ _ (u := old) ?_
    repeat (first | exact ht0 | rw [World.cell?_alloc_lt _ _ t (by first | assumption | (simp; omega))])
  · refine ⟨?_, ?_⟩
    · repeat (first | rw [cell_drew] | rw [cell_set h1] | rw [cell_set h2] | rw [World.cell?_alloc_lt _ _ a (by first | assumption | (simp; omega))])
    · repeat (first | rw [frozen_drew] | rw [World.frozen?_setCell] | rw [World.frozen?_alloc_old _ _ a (by first | omega | (simp; omega))])
  · repeat (first | exact hk | refine Kept.drew ?_ | refine Kept.set ?_ h1 _ | refine Kept.set ?_ h2 _ | refine Kept.alloc ?_ _)
theorem fc_asFault2 (pb po : Nat) (p t : Addr) (n k : Int) (old : Value) (w : World) (hg : w.cell? ⟨0, 0, none⟩ = some (.iface 166 (.agg #[.pointer (some ⟨4, 27, none⟩)]))) (he : w.cell? ⟨pb, po + 2, none⟩ = some (.int .i64 n)) (hp : w.cell? p = some (.int .i64 k)) (hpf : w.frozen? p = false) (hk : (k == 0) = false) (ht0 : w.cell? t = some old) (hf0 : w.frozen? t = false) (hpt : p.block ≠ t.block) :
    Calls Tryz.prog 27 #[.iface 118 (.agg #[.iface 68 (.pointer (some ⟨pb, po, none⟩)), .pointer (some p), .func (.method "Unwrap") #[.iface 68 (.pointer (some ⟨pb, po, none⟩))] #[]]), .iface 80 (.pointer (some t))] w fun ev w' => ev = .returned (.bool true) ∧ Aft p t n w w' := by
  have htl : t.block < w.heap.size := World.block_lt_of_cell? _ _ ht0
  refine (fc_asFault pb po p t n k old w hg he hp hpf hk ht0 hf0 hpt).mono ?_
  rintro ev w' ⟨rfl, rfl⟩
  refine ⟨rfl, ⟨?_, fun a ha h1 h2 => ?_, fun W0 hk h1 h2 => ?_⟩⟩
  · rw [cell_drew]
    refine World.cell?_setCell_same _ _ _ (u := old) ?_
    repeat (first | exact ht0 | rw [cell_set (fun e => hpt e.symm)] | rw [World.cell?_alloc_lt _ _ t (by first | assumption | (simp; omega))])
  · refine ⟨?_, ?_⟩
    · repeat (first | rw [cell_drew] | rw [cell_set h1] | rw [cell_set h2] | rw [World.cell?_alloc_lt _ _ a (by first | assumption | (simp; omega))])
    · repeat (first | rw [frozen_drew] | rw [World.frozen?_setCell] | rw [World.frozen?_alloc_old _ _ a (by first | omega | (simp; omega))])
  · repeat (first | exact hk | refine Kept.drew ?_ | refine Kept.set ?_ h1 _ | refine Kept.set ?_ h2 _ | refine Kept.alloc ?_ _)
theorem fc_asBoot2 (pb po : Nat) (p t : Addr) (n k : Int) (old : Value) (w : World) (hg : w.cell? ⟨0, 0, none⟩ = some (.iface 166 (.agg #[.pointer (some ⟨4, 27, none⟩)]))) (he : w.cell? ⟨pb, po + 1, none⟩ = some (.int .i64 n)) (hp : w.cell? p = some (.int .i64 k)) (hpf : w.frozen? p = false) (hk : (k == 0) = false) (ht0 : w.cell? t = some old) (hf0 : w.frozen? t = false) (hpt : p.block ≠ t.block) :
    Calls Tryz.prog 27 #[.iface 118 (.agg #[.iface 123 (.pointer (some ⟨pb, po, none⟩)), .pointer (some p), .func (.method "Unwrap") #[.iface 123 (.pointer (some ⟨pb, po, none⟩))] #[]]), .iface 80 (.pointer (some t))] w fun ev w' => ev = .returned (.bool true) ∧ Aft p t n w w' := by
  have htl : t.block < w.heap.size := World.block_lt_of_cell? _ _ ht0
  refine (fc_asBoot pb po p t n k old w hg he hp hpf hk ht0 hf0 hpt).mono ?_
  rintro ev w' ⟨rfl, rfl⟩
  refine ⟨rfl, ⟨?_, fun a ha h1 h2 => ?_, fun W0 hk h1 h2 => ?_⟩⟩
  · rw [cell_drew]
    refine World.cell?_setCell_same _ _ _ (u := old) ?_
    repeat (first | exact ht0 | rw [cell_set (fun e => hpt e.symm)] | rw [World.cell?_alloc_lt _ _ t (by first | assumption | (simp; omega))])
  · refine ⟨?_, ?_⟩
    · repeat (first | rw [cell_drew] | rw [cell_set h1] | rw [cell_set h2] | rw [World.cell?_alloc_lt _ _ a (by first | assumption | (simp; omega))])
    · repeat (first | rw [frozen_drew] | rw [World.frozen?_setCell] | rw [World.frozen?_alloc_old _ _ a (by first | omega | (simp; omega))])
  · repeat (first | exact hk | refine Kept.drew ?_ | refine Kept.set ?_ h1 _ | refine Kept.set ?_ h2 _ | refine Kept.alloc ?_ _)
/- follow, at a fault -/
theorem fc_followFault (pb po : Nat) (k : Int) (p : Addr) (w : World) (hp : w.cell? p = some (.int .i64 k)) (hf : w.frozen? p = false) (hk : (k == 0) = false) :
    Calls Tryz.prog 28 #[.iface 68 (.pointer (some ⟨pb, po, none⟩)), .pointer (some p)] w fun e w' => e = .returned (.iface 118 (.agg #[.iface 68 (.pointer (some ⟨pb, po, none⟩)), .pointer (some p), .func (.method "Unwrap") #[.iface 68 (.pointer (some ⟨pb, po, none⟩))] #[]])) ∧
      w' = ((w.setCell p (.int .i64 (wrap64 (k - 1)))).alloc (.cells #[.iface 68 (.pointer (some ⟨pb, po, none⟩)), .pointer (some p)] 115)).drew := by
  have hE1 := fcFault_hasUnwrap
  have hmf : ∀ (fn : Fn) (first cap : Array Value) (w : World), (Instr.makeFunc fn first cap).run Tryz.prog w = .ok (.func fn first cap) w := fun _ _ _ _ => rfl
  go_enter Tryz.func28, Tryz.ntmps28
  go_wp2
  go_region
  all_goals (try go_wp2)
  all_goals go_ret
  all_goals (first | exact ⟨rfl, rfl⟩ | simp [wrap64, Act.put, IntKind.wrap_i64])
theorem fc_followBoot (pb po : Nat) (k : Int) (p : Addr) (w : World) (hp : w.cell? p = some (.int .i64 k)) (hf : w.frozen? p = false) (hk : (k == 0) = false) :
    Calls Tryz.prog 28 #[.iface 123 (.pointer (some ⟨pb, po, none⟩)), .pointer (some p)] w fun e w' => e = .returned (.iface 118 (.agg #[.iface 123 (.pointer (some ⟨pb, po, none⟩)), .pointer (some p), .func (.method "Unwrap") #[.iface 123 (.pointer (some ⟨pb, po, none⟩))] #[]])) ∧
      w' = ((w.setCell p (.int .i64 (wrap64 (k - 1)))).alloc (.cells #[.iface 123 (.pointer (some ⟨pb, po, none⟩)), .pointer (some p)] 115)).drew := by
  have hE1 := fcBoot_hasUnwrap
  have hmf : ∀ (fn : Fn) (first cap : Array Value) (w : World), (Instr.makeFunc fn first cap).run Tryz.prog w = .ok (.func fn first cap) w := fun _ _ _ _ => rfl
  go_enter Tryz.func28, Tryz.ntmps28
  go_wp2
  go_region
  all_goals (try go_wp2)
  all_goals go_ret
  all_goals (first | exact ⟨rfl, rfl⟩ | simp [wrap64, Act.put, IntKind.wrap_i64])
end Go.Proofs.YtbcoodmafoalmaaGreatDoor

namespace Go.Proofs.YtbcoodmafoalmaaGreatDoor
open Go.RowKit Go.Extern.Stop Go.Stop Go.Extern Go.Am
set_option maxRecDepth 100000 in
set_option maxHeartbeats 4000000 in
theorem fc_wrappedE (n : Int) (w : World) (hg : w.cell? ⟨0, 0, none⟩ = some (.iface 166 (.agg #[.pointer (some ⟨4, 27, none⟩)]))) :
    Calls Tryz.prog 15 #[.iface 30 (.int .i64 n)] w fun ev w' => ev = .returned (.int .i64 n) ∧ Kept w w' := by
  have hmf : ∀ (fn : Fn) (first cap : Array Value) (w : World), (Instr.makeFunc fn first cap).run Tryz.prog w = .ok (.func fn first cap) w := fun _ _ _ _ => rfl
  have hlt : 0 < w.heap.size := World.block_lt_of_cell? _ _ hg
  obtain ⟨A2, hA2⟩ : ∃ A2, ((w.alloc (.cells #[.int .i64 0] 30)).alloc (.cells #[.int .i64 1048576] 3)).alloc (.cells #[.int .i64 0] 30) = A2 := ⟨_, rfl⟩
  have hz : A2.heap.size = w.heap.size + 1 + 1 + 1 := by rw [← hA2]; simp
  have hK2 : Kept w A2 := by rw [← hA2]; exact (((Kept.refl w).alloc _).alloc _).alloc _
  have hp2 : A2.cell? ⟨w.heap.size + 1, 0, none⟩ = some (.int .i64 1048576) := by rw [← hA2]; simp [go_sem]
  have hq2 : A2.frozen? ⟨w.heap.size + 1, 0, none⟩ = false := by rw [← hA2]; simp [go_sem]
  have hr2 : A2.cell? ⟨w.heap.size, 0, none⟩ = some (.int .i64 0) := by rw [← hA2]; simp [go_sem]
  have hrf2 : A2.frozen? ⟨w.heap.size, 0, none⟩ = false := by rw [← hA2]; simp [go_sem]
  have ht2 : A2.cell? ⟨w.heap.size + 1 + 1, 0, none⟩ = some (.int .i64 0) := by rw [← hA2]; simp [go_sem]
  have htf2 : A2.frozen? ⟨w.heap.size + 1 + 1, 0, none⟩ = false := by rw [← hA2]; simp [go_sem]
  obtain ⟨A3, hA3⟩ : ∃ A3, ((A2.setCell ⟨w.heap.size + 1, 0, none⟩ (.int .i64 (wrap64 (1048576 - 1)))).alloc (.cells #[.iface 30 (.int .i64 n), .pointer (some ⟨w.heap.size + 1, 0, none⟩)] 115)) = A3 := ⟨_, rfl⟩
  have hz3 : A3.heap.size = w.heap.size + 1 + 1 + 1 + 1 := by rw [← hA3]; simp [hz]
  have hK3 : Kept w A3 := by
    rw [← hA3]
    repeat (first | exact hK2 | refine Kept.drew ?_ | refine Kept.set ?_ (by simp) _ | refine Kept.alloc ?_ _)
  have hg3 : A3.cell? ⟨0, 0, none⟩ = some (.iface 166 (.agg #[.pointer (some ⟨4, 27, none⟩)])) := by
    rw [← hA3]; try rw [cell_drew]
    rw [World.cell?_alloc_lt _ _ _ (by simp [hz]), cell_set (by simp), ← hA2, World.cell?_alloc_lt _ _ _ (by simp), World.cell?_alloc_lt _ _ _ (by simp), World.cell?_alloc_lt _ _ _ hlt]; exact hg
  have ht3 : A3.cell? ⟨w.heap.size + 1 + 1, 0, none⟩ = some (.int .i64 0) := by
    rw [← hA3]; try rw [cell_drew]
    rw [World.cell?_alloc_lt _ _ _ (by simp [hz]), cell_set (by simp)]; exact ht2
  have hf3 : A3.frozen? ⟨w.heap.size + 1 + 1, 0, none⟩ = false := by
    rw [← hA3]; try rw [frozen_drew]
    rw [World.frozen?_alloc_old _ _ _ (by simp [hz]), World.frozen?_setCell]; exact htf2
  have hr3 : A3.cell? ⟨w.heap.size, 0, none⟩ = some (.int .i64 0) := by
    rw [← hA3]; try rw [cell_drew]
    rw [World.cell?_alloc_lt _ _ _ (by first | (simp [hz]; done) | (simp [hz]; omega)), cell_set (by simp)]; exact hr2
  have hrf3 : A3.frozen? ⟨w.heap.size, 0, none⟩ = false := by
    rw [← hA3]; try rw [frozen_drew]
    rw [World.frozen?_alloc_old _ _ _ (by first | (simp [hz]; done) | (simp [hz]; omega)), World.frozen?_setCell]; exact hrf2
  go_enter_defers Tryz.func15, Tryz.ntmps15
  go_wp2_with (first | (go_at_call 28; refine (fc_followE n 1048576 ⟨w.heap.size + 1, 0, none⟩ _ hp2 hq2 rfl).mono ?_; rintro e1 w1 ⟨rfl, hw0⟩; rw [hA3] at hw0; subst hw0) | (go_at_call 27; refine (fc_asW2 ⟨w.heap.size + 1, 0, none⟩ ⟨w.heap.size + 1 + 1, 0, none⟩ n (.int .i64 0) _ hg3 ht3 hf3).mono ?_; rintro e1 w1 ⟨rfl, hw1⟩; have hn1 := hw1.now; have ho1 := (hw1.old ⟨w.heap.size, 0, none⟩ (by simp [hz3]; omega) (by simp; omega) (by simp)).1.trans hr3; have ho2 := (hw1.old ⟨w.heap.size, 0, none⟩ (by simp [hz3]; omega) (by simp; omega) (by simp)).2.trans hrf3; have hK4 := hw1.kept w hK3 (by simp; omega) (by simp)))
  refine leaves_cons (f := 26) (args := #[.pointer (some ⟨w.heap.size, 0, none⟩)]) (by simp) (by simp [go_sem]) ?_
  refine (fc_idle ⟨w.heap.size, 0, none⟩ _).mono ?_
  rintro e u' w'' ⟨rfl, rfl, rfl⟩
  have hfin : (w1.setCell ⟨w.heap.size, 0, none⟩ (.int .i64 n)).cell? ⟨w.heap.size, 0, none⟩ = some (.int .i64 n) := World.cell?_setCell_same _ _ _ ho1
  have hKf : Kept w (w1.setCell ⟨w.heap.size, 0, none⟩ (.int .i64 n)) := hK4.set (by simp) _
  simp [Leaves, settle, results, Tryz.results15, go_sem, hfin, hKf]
set_option maxRecDepth 100000 in
set_option maxHeartbeats 4000000 in
theorem fc_wrapFault (pb po : Nat) (n : Int) (w : World) (hg : w.cell? ⟨0, 0, none⟩ = some (.iface 166 (.agg #[.pointer (some ⟨4, 27, none⟩)]))) (he : w.cell? ⟨pb, po + 2, none⟩ = some (.int .i64 n)) :
    Calls Tryz.prog 15 #[.iface 68 (.pointer (some ⟨pb, po, none⟩))] w fun ev w' => ev = .returned (.int .i64 n) ∧ Kept w w' := by
  have hmf : ∀ (fn : Fn) (first cap : Array Value) (w : World), (Instr.makeFunc fn first cap).run Tryz.prog w = .ok (.func fn first cap) w := fun _ _ _ _ => rfl
  have hlt : 0 < w.heap.size := World.block_lt_of_cell? _ _ hg
  obtain ⟨A2, hA2⟩ : ∃ A2, ((w.alloc (.cells #[.int .i64 0] 30)).alloc (.cells #[.int .i64 1048576] 3)).alloc (.cells #[.int .i64 0] 30) = A2 := ⟨_, rfl⟩
  have hz : A2.heap.size = w.heap.size + 1 + 1 + 1 := by rw [← hA2]; simp
  have hK2 : Kept w A2 := by rw [← hA2]; exact (((Kept.refl w).alloc _).alloc _).alloc _
  have hp2 : A2.cell? ⟨w.heap.size + 1, 0, none⟩ = some (.int .i64 1048576) := by rw [← hA2]; simp [go_sem]
  have hq2 : A2.frozen? ⟨w.heap.size + 1, 0, none⟩ = false := by rw [← hA2]; simp [go_sem]
  have hr2 : A2.cell? ⟨w.heap.size, 0, none⟩ = some (.int .i64 0) := by rw [← hA2]; simp [go_sem]
  have hrf2 : A2.frozen? ⟨w.heap.size, 0, none⟩ = false := by rw [← hA2]; simp [go_sem]
  have ht2 : A2.cell? ⟨w.heap.size + 1 + 1, 0, none⟩ = some (.int .i64 0) := by rw [← hA2]; simp [go_sem]
  have htf2 : A2.frozen? ⟨w.heap.size + 1 + 1, 0, none⟩ = false := by rw [← hA2]; simp [go_sem]
  obtain ⟨A3, hA3⟩ : ∃ A3, ((A2.setCell ⟨w.heap.size + 1, 0, none⟩ (.int .i64 (wrap64 (1048576 - 1)))).alloc (.cells #[.iface 68 (.pointer (some ⟨pb, po, none⟩)), .pointer (some ⟨w.heap.size + 1, 0, none⟩)] 115)).drew = A3 := ⟨_, rfl⟩
  have hz3 : A3.heap.size = w.heap.size + 1 + 1 + 1 + 1 := by rw [← hA3]; simp [hz]
  have hK3 : Kept w A3 := by
    rw [← hA3]
    repeat (first | exact hK2 | refine Kept.drew ?_ | refine Kept.set ?_ (by simp) _ | refine Kept.alloc ?_ _)
  have hg3 : A3.cell? ⟨0, 0, none⟩ = some (.iface 166 (.agg #[.pointer (some ⟨4, 27, none⟩)])) := by
    rw [← hA3]; try rw [cell_drew]
    rw [World.cell?_alloc_lt _ _ _ (by simp [hz]), cell_set (by simp), ← hA2, World.cell?_alloc_lt _ _ _ (by simp), World.cell?_alloc_lt _ _ _ (by simp), World.cell?_alloc_lt _ _ _ hlt]; exact hg
  have ht3 : A3.cell? ⟨w.heap.size + 1 + 1, 0, none⟩ = some (.int .i64 0) := by
    rw [← hA3]; try rw [cell_drew]
    rw [World.cell?_alloc_lt _ _ _ (by simp [hz]), cell_set (by simp)]; exact ht2
  have hf3 : A3.frozen? ⟨w.heap.size + 1 + 1, 0, none⟩ = false := by
    rw [← hA3]; try rw [frozen_drew]
    rw [World.frozen?_alloc_old _ _ _ (by simp [hz]), World.frozen?_setCell]; exact htf2
  have hr3 : A3.cell? ⟨w.heap.size, 0, none⟩ = some (.int .i64 0) := by
    rw [← hA3]; try rw [cell_drew]
    rw [World.cell?_alloc_lt _ _ _ (by first | (simp [hz]; done) | (simp [hz]; omega)), cell_set (by simp)]; exact hr2
  have hrf3 : A3.frozen? ⟨w.heap.size, 0, none⟩ = false := by
    rw [← hA3]; try rw [frozen_drew]
    rw [World.frozen?_alloc_old _ _ _ (by first | (simp [hz]; done) | (simp [hz]; omega)), World.frozen?_setCell]; exact hrf2
  have hpl : pb < w.heap.size := World.block_lt_of_cell? _ _ he
  have he3 : A3.cell? ⟨pb, po + 2, none⟩ = some (.int .i64 n) := by
    rw [← hA3]; try rw [cell_drew]
    rw [World.cell?_alloc_lt _ _ _ (by first | (simp [hz]; done) | (simp [hz]; omega)), cell_set (by simp; omega), ← hA2, World.cell?_alloc_lt _ _ _ (by simp; omega), World.cell?_alloc_lt _ _ _ (by simp; omega), World.cell?_alloc_lt _ _ _ hpl]; exact he
  have hp3 : A3.cell? ⟨w.heap.size + 1, 0, none⟩ = some (.int .i64 (wrap64 (1048576 - 1))) := by
    rw [← hA3]; try rw [cell_drew]
    rw [World.cell?_alloc_lt _ _ _ (by first | (simp [hz]; done) | (simp [hz]; omega))]
    exact World.cell?_setCell_same _ _ _ hp2
  have hq3 : A3.frozen? ⟨w.heap.size + 1, 0, none⟩ = false := by
    rw [← hA3]; try rw [frozen_drew]
    rw [World.frozen?_alloc_old _ _ _ (by first | (simp [hz]; done) | (simp [hz]; omega)), World.frozen?_setCell]; exact hq2
  go_enter_defers Tryz.func15, Tryz.ntmps15
  go_wp2_with (first | (go_at_call 28; refine (fc_followFault pb po 1048576 ⟨w.heap.size + 1, 0, none⟩ _ hp2 hq2 rfl).mono ?_; rintro e1 w1 ⟨rfl, hw0⟩; rw [hA3] at hw0; subst hw0) | (go_at_call 27; refine (fc_asFault2 pb po ⟨w.heap.size + 1, 0, none⟩ ⟨w.heap.size + 1 + 1, 0, none⟩ n (wrap64 (1048576 - 1)) (.int .i64 0) _ hg3 he3 hp3 hq3 (by decide +kernel) ht3 hf3 (by simp)).mono ?_; rintro e1 w1 ⟨rfl, hw1⟩; have hn1 := hw1.now; have ho1 := (hw1.old ⟨w.heap.size, 0, none⟩ (by simp [hz3]; omega) (by simp; omega) (by simp)).1.trans hr3; have ho2 := (hw1.old ⟨w.heap.size, 0, none⟩ (by simp [hz3]; omega) (by simp; omega) (by simp)).2.trans hrf3; have hK4 := hw1.kept w hK3 (by simp; omega) (by simp)))
  refine leaves_cons (f := 26) (args := #[.pointer (some ⟨w.heap.size, 0, none⟩)]) (by simp) (by simp [go_sem]) ?_
  refine (fc_idle ⟨w.heap.size, 0, none⟩ _).mono ?_
  rintro e u' w'' ⟨rfl, rfl, rfl⟩
  have hfin : (w1.setCell ⟨w.heap.size, 0, none⟩ (.int .i64 n)).cell? ⟨w.heap.size, 0, none⟩ = some (.int .i64 n) := World.cell?_setCell_same _ _ _ ho1
  have hKf : Kept w (w1.setCell ⟨w.heap.size, 0, none⟩ (.int .i64 n)) := hK4.set (by simp) _
  simp [Leaves, settle, results, Tryz.results15, go_sem, hfin, hKf]
set_option maxRecDepth 100000 in
set_option maxHeartbeats 4000000 in
theorem fc_wrapBoot (pb po : Nat) (n : Int) (w : World) (hg : w.cell? ⟨0, 0, none⟩ = some (.iface 166 (.agg #[.pointer (some ⟨4, 27, none⟩)]))) (he : w.cell? ⟨pb, po + 1, none⟩ = some (.int .i64 n)) :
    Calls Tryz.prog 15 #[.iface 123 (.pointer (some ⟨pb, po, none⟩))] w fun ev w' => ev = .returned (.int .i64 n) ∧ Kept w w' := by
  have hmf : ∀ (fn : Fn) (first cap : Array Value) (w : World), (Instr.makeFunc fn first cap).run Tryz.prog w = .ok (.func fn first cap) w := fun _ _ _ _ => rfl
  have hlt : 0 < w.heap.size := World.block_lt_of_cell? _ _ hg
  obtain ⟨A2, hA2⟩ : ∃ A2, ((w.alloc (.cells #[.int .i64 0] 30)).alloc (.cells #[.int .i64 1048576] 3)).alloc (.cells #[.int .i64 0] 30) = A2 := ⟨_, rfl⟩
  have hz : A2.heap.size = w.heap.size + 1 + 1 + 1 := by rw [← hA2]; simp
  have hK2 : Kept w A2 := by rw [← hA2]; exact (((Kept.refl w).alloc _).alloc _).alloc _
  have hp2 : A2.cell? ⟨w.heap.size + 1, 0, none⟩ = some (.int .i64 1048576) := by rw [← hA2]; simp [go_sem]
  have hq2 : A2.frozen? ⟨w.heap.size + 1, 0, none⟩ = false := by rw [← hA2]; simp [go_sem]
  have hr2 : A2.cell? ⟨w.heap.size, 0, none⟩ = some (.int .i64 0) := by rw [← hA2]; simp [go_sem]
  have hrf2 : A2.frozen? ⟨w.heap.size, 0, none⟩ = false := by rw [← hA2]; simp [go_sem]
  have ht2 : A2.cell? ⟨w.heap.size + 1 + 1, 0, none⟩ = some (.int .i64 0) := by rw [← hA2]; simp [go_sem]
  have htf2 : A2.frozen? ⟨w.heap.size + 1 + 1, 0, none⟩ = false := by rw [← hA2]; simp [go_sem]
  obtain ⟨A3, hA3⟩ : ∃ A3, ((A2.setCell ⟨w.heap.size + 1, 0, none⟩ (.int .i64 (wrap64 (1048576 - 1)))).alloc (.cells #[.iface 123 (.pointer (some ⟨pb, po, none⟩)), .pointer (some ⟨w.heap.size + 1, 0, none⟩)] 115)).drew = A3 := ⟨_, rfl⟩
  have hz3 : A3.heap.size = w.heap.size + 1 + 1 + 1 + 1 := by rw [← hA3]; simp [hz]
  have hK3 : Kept w A3 := by
    rw [← hA3]
    repeat (first | exact hK2 | refine Kept.drew ?_ | refine Kept.set ?_ (by simp) _ | refine Kept.alloc ?_ _)
  have hg3 : A3.cell? ⟨0, 0, none⟩ = some (.iface 166 (.agg #[.pointer (some ⟨4, 27, none⟩)])) := by
    rw [← hA3]; try rw [cell_drew]
    rw [World.cell?_alloc_lt _ _ _ (by simp [hz]), cell_set (by simp), ← hA2, World.cell?_alloc_lt _ _ _ (by simp), World.cell?_alloc_lt _ _ _ (by simp), World.cell?_alloc_lt _ _ _ hlt]; exact hg
  have ht3 : A3.cell? ⟨w.heap.size + 1 + 1, 0, none⟩ = some (.int .i64 0) := by
    rw [← hA3]; try rw [cell_drew]
    rw [World.cell?_alloc_lt _ _ _ (by simp [hz]), cell_set (by simp)]; exact ht2
  have hf3 : A3.frozen? ⟨w.heap.size + 1 + 1, 0, none⟩ = false := by
    rw [← hA3]; try rw [frozen_drew]
    rw [World.frozen?_alloc_old _ _ _ (by simp [hz]), World.frozen?_setCell]; exact htf2
  have hr3 : A3.cell? ⟨w.heap.size, 0, none⟩ = some (.int .i64 0) := by
    rw [← hA3]; try rw [cell_drew]
    rw [World.cell?_alloc_lt _ _ _ (by first | (simp [hz]; done) | (simp [hz]; omega)), cell_set (by simp)]; exact hr2
  have hrf3 : A3.frozen? ⟨w.heap.size, 0, none⟩ = false := by
    rw [← hA3]; try rw [frozen_drew]
    rw [World.frozen?_alloc_old _ _ _ (by first | (simp [hz]; done) | (simp [hz]; omega)), World.frozen?_setCell]; exact hrf2
  have hpl : pb < w.heap.size := World.block_lt_of_cell? _ _ he
  have he3 : A3.cell? ⟨pb, po + 1, none⟩ = some (.int .i64 n) := by
    rw [← hA3]; try rw [cell_drew]
    rw [World.cell?_alloc_lt _ _ _ (by first | (simp [hz]; done) | (simp [hz]; omega)), cell_set (by simp; omega), ← hA2, World.cell?_alloc_lt _ _ _ (by simp; omega), World.cell?_alloc_lt _ _ _ (by simp; omega), World.cell?_alloc_lt _ _ _ hpl]; exact he
  have hp3 : A3.cell? ⟨w.heap.size + 1, 0, none⟩ = some (.int .i64 (wrap64 (1048576 - 1))) := by
    rw [← hA3]; try rw [cell_drew]
    rw [World.cell?_alloc_lt _ _ _ (by first | (simp [hz]; done) | (simp [hz]; omega))]
    exact World.cell?_setCell_same _ _ _ hp2
  have hq3 : A3.frozen? ⟨w.heap.size + 1, 0, none⟩ = false := by
    rw [← hA3]; try rw [frozen_drew]
    rw [World.frozen?_alloc_old _ _ _ (by first | (simp [hz]; done) | (simp [hz]; omega)), World.frozen?_setCell]; exact hq2
  go_enter_defers Tryz.func15, Tryz.ntmps15
  go_wp2_with (first | (go_at_call 28; refine (fc_followBoot pb po 1048576 ⟨w.heap.size + 1, 0, none⟩ _ hp2 hq2 rfl).mono ?_; rintro e1 w1 ⟨rfl, hw0⟩; rw [hA3] at hw0; subst hw0) | (go_at_call 27; refine (fc_asBoot2 pb po ⟨w.heap.size + 1, 0, none⟩ ⟨w.heap.size + 1 + 1, 0, none⟩ n (wrap64 (1048576 - 1)) (.int .i64 0) _ hg3 he3 hp3 hq3 (by decide +kernel) ht3 hf3 (by simp)).mono ?_; rintro e1 w1 ⟨rfl, hw1⟩; have hn1 := hw1.now; have ho1 := (hw1.old ⟨w.heap.size, 0, none⟩ (by simp [hz3]; omega) (by simp; omega) (by simp)).1.trans hr3; have ho2 := (hw1.old ⟨w.heap.size, 0, none⟩ (by simp [hz3]; omega) (by simp; omega) (by simp)).2.trans hrf3; have hK4 := hw1.kept w hK3 (by simp; omega) (by simp)))
  refine leaves_cons (f := 26) (args := #[.pointer (some ⟨w.heap.size, 0, none⟩)]) (by simp) (by simp [go_sem]) ?_
  refine (fc_idle ⟨w.heap.size, 0, none⟩ _).mono ?_
  rintro e u' w'' ⟨rfl, rfl, rfl⟩
  have hfin : (w1.setCell ⟨w.heap.size, 0, none⟩ (.int .i64 n)).cell? ⟨w.heap.size, 0, none⟩ = some (.int .i64 n) := World.cell?_setCell_same _ _ _ ho1
  have hKf : Kept w (w1.setCell ⟨w.heap.size, 0, none⟩ (.int .i64 n)) := hK4.set (by simp) _
  simp [Leaves, settle, results, Tryz.results15, go_sem, hfin, hKf]
end Go.Proofs.YtbcoodmafoalmaaGreatDoor
