/- The same for the other faults; written by mkas.py. -/
import Derived.Test.YtpdmaenhenfofaaGreatDoorZEa
set_option linter.unusedVariables false
set_option linter.unusedSimpArgs false
namespace Go.Proofs.YtpdmaenhenfofaaGreatDoor
open Go.RowKit Go.Extern.Stop Go.Stop Go.Extern
theorem Nq (v:Value) (w:World):(ReflectliteType.typeOf #[.iface 97 v]).run Tryz.prog w=.ok (.iface 268 (.agg #[.pointer (some ⟨4,97,none⟩)])) w:=by kernel_rfl
theorem Kg (w:World):(ReflectliteType.relation "AssignableTo" ReflectliteType.assignableTo #[.agg #[.pointer (some ⟨4,97,none⟩)],.iface 268 (.agg #[.pointer (some ⟨4,26,none⟩)])]).run Tryz.prog w=.ok (.bool false) w:=by kernel_rfl
theorem Qq (v:Value) (xT:TypeId) (w:World):(Instr.typeAssert (.iface 97 v) xT 287 true).run Tryz.prog w=.ok (.tuple #[.nilIface,.bool false]) w:=run_typeAssert_lacksB Tryz.underlying287 (by kernel_rfl) (by kernel_rfl) v xT w
theorem KB (v:Value) (xT:TypeId) (w:World):(Instr.typeAssert (.iface 97 v) xT 273 true).run Tryz.prog w=.ok (.tuple #[.iface 97 v,.bool true]) w:=run_typeAssert_hasB Tryz.underlying273 (by kernel_rfl) v xT w
theorem Nr (v:Value) (w:World):(Go.method 473 97 v "Unwrap").run Tryz.prog w=.ok (244,v) w:=by kernel_rfl
set_option maxRecDepth 100000 in
set_option maxHeartbeats 4000000 in
theorem Acd (pb po:Nat) (t:Addr) (n:Int) (old:Value) (w:World) (hg:w.cell? ⟨0,0,none⟩=some (.iface 268 (.agg #[.pointer (some ⟨4,93,none⟩)]))) (he:w.cell? ⟨pb,po+1,none⟩=some (.int .i64 n)) (ht0:w.cell? t=some old) (hf0:w.frozen? t=false):
  Calls Tryz.prog 75 #[.iface 97 (.pointer (some ⟨pb,po,none⟩)),.iface 165 (.pointer (some t))] w fun ev w'=>ev=.returned (.bool true)∧w'=((((w.alloc (.cells #[.pointer (some t)] 165)).alloc (.cells #[.pointer (some ⟨4,165,none⟩),.pointer (some ⟨w.heap.size,0,none⟩),.int .u64 150] 238)).alloc (.cells #[.pointer (some ⟨4,165,none⟩),.pointer (some ⟨w.heap.size,0,none⟩),.int .u64 150] 238)).alloc (.cells #[.int .i64 n] 26)).setCell t (.int .i64 n):=by
 have h6:= @run_callFunc_extern Tryz.prog 130 _ (fun args=>ReflectliteValue.unpack (args.getD 0 (.tuple #[]))) Tryz.func130 (by kernel_rfl) (by kernel_rfl) (by kernel_rfl) (by kernel_rfl)
 have h7:= @run_callFunc_extern Tryz.prog 131 _ (ReflectliteValue.methodAny (ReflectliteValue.valueError "reflectlite.Value.Type" 0) (fun t _ _ _=>ReflectliteType.toType t)) Tryz.func131 (by kernel_rfl) (by kernel_rfl) (by kernel_rfl) (by kernel_rfl)
 have h8:= @run_callFunc_extern Tryz.prog 132 _ (ReflectliteValue.method (ReflectliteValue.valueError "reflectlite.Value.IsNil" 0) ReflectliteValue.isNil) Tryz.func132 (by kernel_rfl) (by kernel_rfl) (by kernel_rfl) (by kernel_rfl)
 have h27:= @run_callFunc_extern Tryz.prog 239 _ (ReflectliteType.abiMethod fun t=>do pure (.int .u8 (←Rtype.kind t))) Tryz.func239 (by kernel_rfl) (by kernel_rfl) (by kernel_rfl) (by kernel_rfl)
 have h37:= @run_callFunc_extern Tryz.prog 282 _ (ReflectliteType.method ReflectliteType.elem) Tryz.func282 (by kernel_rfl) (by kernel_rfl) (by kernel_rfl) (by kernel_rfl)
 have h38:= @run_callFunc_extern Tryz.prog 283 _ (ReflectliteType.relation "Implements" ReflectliteType.implements_) Tryz.func283 (by kernel_rfl) (by kernel_rfl) (by kernel_rfl) (by kernel_rfl)
 have h10:= @run_callFunc_extern Tryz.prog 113 _ ReflectliteType.typeOf Tryz.func113 (by kernel_rfl) (by kernel_rfl) (by kernel_rfl) (by kernel_rfl)
 have h35:= @run_callFunc_extern Tryz.prog 280 _ (ReflectliteType.relation "AssignableTo" ReflectliteType.assignableTo) Tryz.func280 (by kernel_rfl) (by kernel_rfl) (by kernel_rfl) (by kernel_rfl)
 have h11:= @run_callFunc_extern Tryz.prog 179 _ (ReflectliteValue.method (ReflectliteValue.valueError "reflectlite.Value.Elem" 0) ReflectliteValue.elem) Tryz.func179 (by kernel_rfl) (by kernel_rfl) (by kernel_rfl) (by kernel_rfl)
 have h12:= @run_callFunc_extern Tryz.prog 180 _ ReflectliteValue.set Tryz.func180 (by kernel_rfl) (by kernel_rfl) (by kernel_rfl) (by kernel_rfl)
 have mK:=E4
 have mE:=E5
 have mI:=CI
 have mA:=C6
 have f6:=FK
 have f7:=Js
 have k27:=Jt
 have k25:=Ju
 have e27:=Jv
 have i25:=Ec
 have tO:=GK
 have a25:=Ed
 have v25:=FL
 have tF:=Nq
 have aF:=Kg
 have nA:=Qq
 have hU:=KB
 have mU:=Nr
 have hlt:0<w.heap.size:=World.block_lt_of_cell? _ _ hg
 have htl:t.block<w.heap.size:=World.block_lt_of_cell? _ _ ht0
 have hpl:pb<w.heap.size:=World.block_lt_of_cell? _ _ he
 have n8:=HK ⟨w.heap.size,0,none⟩ t ((w.alloc (.cells #[.pointer (some t)] 165)).alloc (.cells #[.pointer (some ⟨4,165,none⟩),.pointer (some ⟨w.heap.size,0,none⟩),.int .u64 150] 238)) (by simp)
 have hg2:((w.alloc (.cells #[.pointer (some t)] 165)).alloc (.cells #[.pointer (some ⟨4,165,none⟩),.pointer (some ⟨w.heap.size,0,none⟩),.int .u64 150] 238)).cell? ⟨0,0,none⟩=some (.iface 268 (.agg #[.pointer (some ⟨4,93,none⟩)])):=by
  rw[World.cell?_alloc_lt _ _ ⟨0,0,none⟩ (by simp),World.cell?_alloc_lt _ _ ⟨0,0,none⟩ hlt];exact hg
 have he3:(((w.alloc (.cells #[.pointer (some t)] 165)).alloc (.cells #[.pointer (some ⟨4,165,none⟩),.pointer (some ⟨w.heap.size,0,none⟩),.int .u64 150] 238)).alloc (.cells #[.pointer (some ⟨4,165,none⟩),.pointer (some ⟨w.heap.size,0,none⟩),.int .u64 150] 238)).cell? ⟨pb,po+1,none⟩=some (.int .i64 n):=by
  rw[World.cell?_alloc_lt _ _ ⟨pb,po+1,none⟩ (by simp;omega),World.cell?_alloc_lt _ _ ⟨pb,po+1,none⟩ (by simp;omega),World.cell?_alloc_lt _ _ ⟨pb,po+1,none⟩ hpl];exact he
 have el:=HL ⟨w.heap.size,0,none⟩ t (((w.alloc (.cells #[.pointer (some t)] 165)).alloc (.cells #[.pointer (some ⟨4,165,none⟩),.pointer (some ⟨w.heap.size,0,none⟩),.int .u64 150] 238)).alloc (.cells #[.pointer (some ⟨4,165,none⟩),.pointer (some ⟨w.heap.size,0,none⟩),.int .u64 150] 238)) (by rw[World.cell?_alloc_lt _ _ ⟨w.heap.size,0,none⟩ (by simp;omega)];simp)
 have st:=LR t ⟨w.heap.size+1+1+1,0,none⟩ n old ((((w.alloc (.cells #[.pointer (some t)] 165)).alloc (.cells #[.pointer (some ⟨4,165,none⟩),.pointer (some ⟨w.heap.size,0,none⟩),.int .u64 150] 238)).alloc (.cells #[.pointer (some ⟨4,165,none⟩),.pointer (some ⟨w.heap.size,0,none⟩),.int .u64 150] 238)).alloc (.cells #[.int .i64 n] 26))
  (by rw[World.cell?_alloc_at _ _ _ _ (by simp)];rfl)
  (by rw[World.cell?_alloc_lt _ _ t (by simp;omega),World.cell?_alloc_lt _ _ t (by simp;omega),World.cell?_alloc_lt _ _ t (by simp;omega),World.cell?_alloc_lt _ _ t htl];exact ht0)
  (by rw[World.frozen?_alloc_old _ _ t (by simp;omega),World.frozen?_alloc_old _ _ t (by simp;omega),World.frozen?_alloc_old _ _ t (by simp;omega),World.frozen?_alloc_old _ _ t (Nat.ne_of_lt htl)];exact hf0)
 go_enter Tryz.func75,Tryz.ntmps75
 go_wp2
 refine wp_loop_rounds 2 ?_
 rw[rounds_succ]
 go_wp2
 rw[rounds_succ]
 go_wp2
 go_ret
 exact⟨rfl,rfl⟩
theorem PW (v:Value) (w:World):(ReflectliteType.typeOf #[.iface 278 v]).run Tryz.prog w=.ok (.iface 268 (.agg #[.pointer (some ⟨4,278,none⟩)])) w:=by kernel_rfl
theorem LS (w:World):(ReflectliteType.relation "AssignableTo" ReflectliteType.assignableTo #[.agg #[.pointer (some ⟨4,278,none⟩)],.iface 268 (.agg #[.pointer (some ⟨4,26,none⟩)])]).run Tryz.prog w=.ok (.bool false) w:=by kernel_rfl
theorem UT (v:Value) (xT:TypeId) (w:World):(Instr.typeAssert (.iface 278 v) xT 287 true).run Tryz.prog w=.ok (.tuple #[.nilIface,.bool false]) w:=run_typeAssert_lacksB Tryz.underlying287 (by kernel_rfl) (by kernel_rfl) v xT w
theorem MC (v:Value) (xT:TypeId) (w:World):(Instr.typeAssert (.iface 278 v) xT 273 true).run Tryz.prog w=.ok (.tuple #[.iface 278 v,.bool true]) w:=run_typeAssert_hasB Tryz.underlying273 (by kernel_rfl) v xT w
theorem PX (v:Value) (w:World):(Go.method 473 278 v "Unwrap").run Tryz.prog w=.ok (291,v) w:=by kernel_rfl
set_option maxRecDepth 100000 in
set_option maxHeartbeats 4000000 in
theorem Aiu (pb po:Nat) (t:Addr) (n:Int) (old:Value) (w:World) (hg:w.cell? ⟨0,0,none⟩=some (.iface 268 (.agg #[.pointer (some ⟨4,93,none⟩)]))) (he:w.cell? ⟨pb,po+1,none⟩=some (.int .i64 n)) (ht0:w.cell? t=some old) (hf0:w.frozen? t=false):
  Calls Tryz.prog 75 #[.iface 278 (.pointer (some ⟨pb,po,none⟩)),.iface 165 (.pointer (some t))] w fun ev w'=>ev=.returned (.bool true)∧w'=((((w.alloc (.cells #[.pointer (some t)] 165)).alloc (.cells #[.pointer (some ⟨4,165,none⟩),.pointer (some ⟨w.heap.size,0,none⟩),.int .u64 150] 238)).alloc (.cells #[.pointer (some ⟨4,165,none⟩),.pointer (some ⟨w.heap.size,0,none⟩),.int .u64 150] 238)).alloc (.cells #[.int .i64 n] 26)).setCell t (.int .i64 n):=by
 have h6:= @run_callFunc_extern Tryz.prog 130 _ (fun args=>ReflectliteValue.unpack (args.getD 0 (.tuple #[]))) Tryz.func130 (by kernel_rfl) (by kernel_rfl) (by kernel_rfl) (by kernel_rfl)
 have h7:= @run_callFunc_extern Tryz.prog 131 _ (ReflectliteValue.methodAny (ReflectliteValue.valueError "reflectlite.Value.Type" 0) (fun t _ _ _=>ReflectliteType.toType t)) Tryz.func131 (by kernel_rfl) (by kernel_rfl) (by kernel_rfl) (by kernel_rfl)
 have h8:= @run_callFunc_extern Tryz.prog 132 _ (ReflectliteValue.method (ReflectliteValue.valueError "reflectlite.Value.IsNil" 0) ReflectliteValue.isNil) Tryz.func132 (by kernel_rfl) (by kernel_rfl) (by kernel_rfl) (by kernel_rfl)
 have h27:= @run_callFunc_extern Tryz.prog 239 _ (ReflectliteType.abiMethod fun t=>do pure (.int .u8 (←Rtype.kind t))) Tryz.func239 (by kernel_rfl) (by kernel_rfl) (by kernel_rfl) (by kernel_rfl)
 have h37:= @run_callFunc_extern Tryz.prog 282 _ (ReflectliteType.method ReflectliteType.elem) Tryz.func282 (by kernel_rfl) (by kernel_rfl) (by kernel_rfl) (by kernel_rfl)
 have h38:= @run_callFunc_extern Tryz.prog 283 _ (ReflectliteType.relation "Implements" ReflectliteType.implements_) Tryz.func283 (by kernel_rfl) (by kernel_rfl) (by kernel_rfl) (by kernel_rfl)
 have h10:= @run_callFunc_extern Tryz.prog 113 _ ReflectliteType.typeOf Tryz.func113 (by kernel_rfl) (by kernel_rfl) (by kernel_rfl) (by kernel_rfl)
 have h35:= @run_callFunc_extern Tryz.prog 280 _ (ReflectliteType.relation "AssignableTo" ReflectliteType.assignableTo) Tryz.func280 (by kernel_rfl) (by kernel_rfl) (by kernel_rfl) (by kernel_rfl)
 have h11:= @run_callFunc_extern Tryz.prog 179 _ (ReflectliteValue.method (ReflectliteValue.valueError "reflectlite.Value.Elem" 0) ReflectliteValue.elem) Tryz.func179 (by kernel_rfl) (by kernel_rfl) (by kernel_rfl) (by kernel_rfl)
 have h12:= @run_callFunc_extern Tryz.prog 180 _ ReflectliteValue.set Tryz.func180 (by kernel_rfl) (by kernel_rfl) (by kernel_rfl) (by kernel_rfl)
 have mK:=E4
 have mE:=E5
 have mI:=CI
 have mA:=C6
 have f6:=FK
 have f7:=Js
 have k27:=Jt
 have k25:=Ju
 have e27:=Jv
 have i25:=Ec
 have tO:=GK
 have a25:=Ed
 have v25:=FL
 have tF:=PW
 have aF:=LS
 have nA:=UT
 have hU:=MC
 have mU:=PX
 have hlt:0<w.heap.size:=World.block_lt_of_cell? _ _ hg
 have htl:t.block<w.heap.size:=World.block_lt_of_cell? _ _ ht0
 have hpl:pb<w.heap.size:=World.block_lt_of_cell? _ _ he
 have n8:=HK ⟨w.heap.size,0,none⟩ t ((w.alloc (.cells #[.pointer (some t)] 165)).alloc (.cells #[.pointer (some ⟨4,165,none⟩),.pointer (some ⟨w.heap.size,0,none⟩),.int .u64 150] 238)) (by simp)
 have hg2:((w.alloc (.cells #[.pointer (some t)] 165)).alloc (.cells #[.pointer (some ⟨4,165,none⟩),.pointer (some ⟨w.heap.size,0,none⟩),.int .u64 150] 238)).cell? ⟨0,0,none⟩=some (.iface 268 (.agg #[.pointer (some ⟨4,93,none⟩)])):=by
  rw[World.cell?_alloc_lt _ _ ⟨0,0,none⟩ (by simp),World.cell?_alloc_lt _ _ ⟨0,0,none⟩ hlt];exact hg
 have he3:(((w.alloc (.cells #[.pointer (some t)] 165)).alloc (.cells #[.pointer (some ⟨4,165,none⟩),.pointer (some ⟨w.heap.size,0,none⟩),.int .u64 150] 238)).alloc (.cells #[.pointer (some ⟨4,165,none⟩),.pointer (some ⟨w.heap.size,0,none⟩),.int .u64 150] 238)).cell? ⟨pb,po+1,none⟩=some (.int .i64 n):=by
  rw[World.cell?_alloc_lt _ _ ⟨pb,po+1,none⟩ (by simp;omega),World.cell?_alloc_lt _ _ ⟨pb,po+1,none⟩ (by simp;omega),World.cell?_alloc_lt _ _ ⟨pb,po+1,none⟩ hpl];exact he
 have el:=HL ⟨w.heap.size,0,none⟩ t (((w.alloc (.cells #[.pointer (some t)] 165)).alloc (.cells #[.pointer (some ⟨4,165,none⟩),.pointer (some ⟨w.heap.size,0,none⟩),.int .u64 150] 238)).alloc (.cells #[.pointer (some ⟨4,165,none⟩),.pointer (some ⟨w.heap.size,0,none⟩),.int .u64 150] 238)) (by rw[World.cell?_alloc_lt _ _ ⟨w.heap.size,0,none⟩ (by simp;omega)];simp)
 have st:=LR t ⟨w.heap.size+1+1+1,0,none⟩ n old ((((w.alloc (.cells #[.pointer (some t)] 165)).alloc (.cells #[.pointer (some ⟨4,165,none⟩),.pointer (some ⟨w.heap.size,0,none⟩),.int .u64 150] 238)).alloc (.cells #[.pointer (some ⟨4,165,none⟩),.pointer (some ⟨w.heap.size,0,none⟩),.int .u64 150] 238)).alloc (.cells #[.int .i64 n] 26))
  (by rw[World.cell?_alloc_at _ _ _ _ (by simp)];rfl)
  (by rw[World.cell?_alloc_lt _ _ t (by simp;omega),World.cell?_alloc_lt _ _ t (by simp;omega),World.cell?_alloc_lt _ _ t (by simp;omega),World.cell?_alloc_lt _ _ t htl];exact ht0)
  (by rw[World.frozen?_alloc_old _ _ t (by simp;omega),World.frozen?_alloc_old _ _ t (by simp;omega),World.frozen?_alloc_old _ _ t (by simp;omega),World.frozen?_alloc_old _ _ t (Nat.ne_of_lt htl)];exact hf0)
 go_enter Tryz.func75,Tryz.ntmps75
 go_wp2
 refine wp_loop_rounds 2 ?_
 rw[rounds_succ]
 go_wp2
 rw[rounds_succ]
 go_wp2
 go_ret
 exact⟨rfl,rfl⟩
theorem PY (v:Value) (w:World):(ReflectliteType.typeOf #[.iface 290 v]).run Tryz.prog w=.ok (.iface 268 (.agg #[.pointer (some ⟨4,290,none⟩)])) w:=by kernel_rfl
theorem LT (w:World):(ReflectliteType.relation "AssignableTo" ReflectliteType.assignableTo #[.agg #[.pointer (some ⟨4,290,none⟩)],.iface 268 (.agg #[.pointer (some ⟨4,26,none⟩)])]).run Tryz.prog w=.ok (.bool false) w:=by kernel_rfl
theorem UU (v:Value) (xT:TypeId) (w:World):(Instr.typeAssert (.iface 290 v) xT 287 true).run Tryz.prog w=.ok (.tuple #[.nilIface,.bool false]) w:=run_typeAssert_lacksB Tryz.underlying287 (by kernel_rfl) (by kernel_rfl) v xT w
theorem MD (v:Value) (xT:TypeId) (w:World):(Instr.typeAssert (.iface 290 v) xT 273 true).run Tryz.prog w=.ok (.tuple #[.iface 290 v,.bool true]) w:=run_typeAssert_hasB Tryz.underlying273 (by kernel_rfl) v xT w
theorem PZ (v:Value) (w:World):(Go.method 473 290 v "Unwrap").run Tryz.prog w=.ok (293,v) w:=by kernel_rfl
set_option maxRecDepth 100000 in
set_option maxHeartbeats 4000000 in
theorem Aiv (pb po:Nat) (t:Addr) (n:Int) (old:Value) (w:World) (hg:w.cell? ⟨0,0,none⟩=some (.iface 268 (.agg #[.pointer (some ⟨4,93,none⟩)]))) (he:w.cell? ⟨pb,po+1,none⟩=some (.int .i64 n)) (ht0:w.cell? t=some old) (hf0:w.frozen? t=false):
  Calls Tryz.prog 75 #[.iface 290 (.pointer (some ⟨pb,po,none⟩)),.iface 165 (.pointer (some t))] w fun ev w'=>ev=.returned (.bool true)∧w'=((((w.alloc (.cells #[.pointer (some t)] 165)).alloc (.cells #[.pointer (some ⟨4,165,none⟩),.pointer (some ⟨w.heap.size,0,none⟩),.int .u64 150] 238)).alloc (.cells #[.pointer (some ⟨4,165,none⟩),.pointer (some ⟨w.heap.size,0,none⟩),.int .u64 150] 238)).alloc (.cells #[.int .i64 n] 26)).setCell t (.int .i64 n):=by
 have h6:= @run_callFunc_extern Tryz.prog 130 _ (fun args=>ReflectliteValue.unpack (args.getD 0 (.tuple #[]))) Tryz.func130 (by kernel_rfl) (by kernel_rfl) (by kernel_rfl) (by kernel_rfl)
 have h7:= @run_callFunc_extern Tryz.prog 131 _ (ReflectliteValue.methodAny (ReflectliteValue.valueError "reflectlite.Value.Type" 0) (fun t _ _ _=>ReflectliteType.toType t)) Tryz.func131 (by kernel_rfl) (by kernel_rfl) (by kernel_rfl) (by kernel_rfl)
 have h8:= @run_callFunc_extern Tryz.prog 132 _ (ReflectliteValue.method (ReflectliteValue.valueError "reflectlite.Value.IsNil" 0) ReflectliteValue.isNil) Tryz.func132 (by kernel_rfl) (by kernel_rfl) (by kernel_rfl) (by kernel_rfl)
 have h27:= @run_callFunc_extern Tryz.prog 239 _ (ReflectliteType.abiMethod fun t=>do pure (.int .u8 (←Rtype.kind t))) Tryz.func239 (by kernel_rfl) (by kernel_rfl) (by kernel_rfl) (by kernel_rfl)
 have h37:= @run_callFunc_extern Tryz.prog 282 _ (ReflectliteType.method ReflectliteType.elem) Tryz.func282 (by kernel_rfl) (by kernel_rfl) (by kernel_rfl) (by kernel_rfl)
 have h38:= @run_callFunc_extern Tryz.prog 283 _ (ReflectliteType.relation "Implements" ReflectliteType.implements_) Tryz.func283 (by kernel_rfl) (by kernel_rfl) (by kernel_rfl) (by kernel_rfl)
 have h10:= @run_callFunc_extern Tryz.prog 113 _ ReflectliteType.typeOf Tryz.func113 (by kernel_rfl) (by kernel_rfl) (by kernel_rfl) (by kernel_rfl)
 have h35:= @run_callFunc_extern Tryz.prog 280 _ (ReflectliteType.relation "AssignableTo" ReflectliteType.assignableTo) Tryz.func280 (by kernel_rfl) (by kernel_rfl) (by kernel_rfl) (by kernel_rfl)
 have h11:= @run_callFunc_extern Tryz.prog 179 _ (ReflectliteValue.method (ReflectliteValue.valueError "reflectlite.Value.Elem" 0) ReflectliteValue.elem) Tryz.func179 (by kernel_rfl) (by kernel_rfl) (by kernel_rfl) (by kernel_rfl)
 have h12:= @run_callFunc_extern Tryz.prog 180 _ ReflectliteValue.set Tryz.func180 (by kernel_rfl) (by kernel_rfl) (by kernel_rfl) (by kernel_rfl)
 have mK:=E4
 have mE:=E5
 have mI:=CI
 have mA:=C6
 have f6:=FK
 have f7:=Js
 have k27:=Jt
 have k25:=Ju
 have e27:=Jv
 have i25:=Ec
 have tO:=GK
 have a25:=Ed
 have v25:=FL
 have tF:=PY
 have aF:=LT
 have nA:=UU
 have hU:=MD
 have mU:=PZ
 have hlt:0<w.heap.size:=World.block_lt_of_cell? _ _ hg
 have htl:t.block<w.heap.size:=World.block_lt_of_cell? _ _ ht0
 have hpl:pb<w.heap.size:=World.block_lt_of_cell? _ _ he
 have n8:=HK ⟨w.heap.size,0,none⟩ t ((w.alloc (.cells #[.pointer (some t)] 165)).alloc (.cells #[.pointer (some ⟨4,165,none⟩),.pointer (some ⟨w.heap.size,0,none⟩),.int .u64 150] 238)) (by simp)
 have hg2:((w.alloc (.cells #[.pointer (some t)] 165)).alloc (.cells #[.pointer (some ⟨4,165,none⟩),.pointer (some ⟨w.heap.size,0,none⟩),.int .u64 150] 238)).cell? ⟨0,0,none⟩=some (.iface 268 (.agg #[.pointer (some ⟨4,93,none⟩)])):=by
  rw[World.cell?_alloc_lt _ _ ⟨0,0,none⟩ (by simp),World.cell?_alloc_lt _ _ ⟨0,0,none⟩ hlt];exact hg
 have he3:(((w.alloc (.cells #[.pointer (some t)] 165)).alloc (.cells #[.pointer (some ⟨4,165,none⟩),.pointer (some ⟨w.heap.size,0,none⟩),.int .u64 150] 238)).alloc (.cells #[.pointer (some ⟨4,165,none⟩),.pointer (some ⟨w.heap.size,0,none⟩),.int .u64 150] 238)).cell? ⟨pb,po+1,none⟩=some (.int .i64 n):=by
  rw[World.cell?_alloc_lt _ _ ⟨pb,po+1,none⟩ (by simp;omega),World.cell?_alloc_lt _ _ ⟨pb,po+1,none⟩ (by simp;omega),World.cell?_alloc_lt _ _ ⟨pb,po+1,none⟩ hpl];exact he
 have el:=HL ⟨w.heap.size,0,none⟩ t (((w.alloc (.cells #[.pointer (some t)] 165)).alloc (.cells #[.pointer (some ⟨4,165,none⟩),.pointer (some ⟨w.heap.size,0,none⟩),.int .u64 150] 238)).alloc (.cells #[.pointer (some ⟨4,165,none⟩),.pointer (some ⟨w.heap.size,0,none⟩),.int .u64 150] 238)) (by rw[World.cell?_alloc_lt _ _ ⟨w.heap.size,0,none⟩ (by simp;omega)];simp)
 have st:=LR t ⟨w.heap.size+1+1+1,0,none⟩ n old ((((w.alloc (.cells #[.pointer (some t)] 165)).alloc (.cells #[.pointer (some ⟨4,165,none⟩),.pointer (some ⟨w.heap.size,0,none⟩),.int .u64 150] 238)).alloc (.cells #[.pointer (some ⟨4,165,none⟩),.pointer (some ⟨w.heap.size,0,none⟩),.int .u64 150] 238)).alloc (.cells #[.int .i64 n] 26))
  (by rw[World.cell?_alloc_at _ _ _ _ (by simp)];rfl)
  (by rw[World.cell?_alloc_lt _ _ t (by simp;omega),World.cell?_alloc_lt _ _ t (by simp;omega),World.cell?_alloc_lt _ _ t (by simp;omega),World.cell?_alloc_lt _ _ t htl];exact ht0)
  (by rw[World.frozen?_alloc_old _ _ t (by simp;omega),World.frozen?_alloc_old _ _ t (by simp;omega),World.frozen?_alloc_old _ _ t (by simp;omega),World.frozen?_alloc_old _ _ t (Nat.ne_of_lt htl)];exact hf0)
 go_enter Tryz.func75,Tryz.ntmps75
 go_wp2
 refine wp_loop_rounds 2 ?_
 rw[rounds_succ]
 go_wp2
 rw[rounds_succ]
 go_wp2
 go_ret
 exact⟨rfl,rfl⟩
theorem ME (v:Value) (w:World):(ReflectliteType.typeOf #[.iface 310 v]).run Tryz.prog w=.ok (.iface 268 (.agg #[.pointer (some ⟨4,310,none⟩)])) w:=by kernel_rfl
theorem Jw (w:World):(ReflectliteType.relation "AssignableTo" ReflectliteType.assignableTo #[.agg #[.pointer (some ⟨4,310,none⟩)],.iface 268 (.agg #[.pointer (some ⟨4,26,none⟩)])]).run Tryz.prog w=.ok (.bool false) w:=by kernel_rfl
theorem OV (v:Value) (xT:TypeId) (w:World):(Instr.typeAssert (.iface 310 v) xT 287 true).run Tryz.prog w=.ok (.tuple #[.nilIface,.bool false]) w:=run_typeAssert_lacksB Tryz.underlying287 (by kernel_rfl) (by kernel_rfl) v xT w
theorem Kh (v:Value) (xT:TypeId) (w:World):(Instr.typeAssert (.iface 310 v) xT 273 true).run Tryz.prog w=.ok (.tuple #[.iface 310 v,.bool true]) w:=run_typeAssert_hasB Tryz.underlying273 (by kernel_rfl) v xT w
theorem MF (v:Value) (w:World):(Go.method 473 310 v "Unwrap").run Tryz.prog w=.ok (295,v) w:=by kernel_rfl
set_option maxRecDepth 100000 in
set_option maxHeartbeats 4000000 in
theorem YX (pb po:Nat) (t:Addr) (n:Int) (old:Value) (w:World) (hg:w.cell? ⟨0,0,none⟩=some (.iface 268 (.agg #[.pointer (some ⟨4,93,none⟩)]))) (he:w.cell? ⟨pb,po+1,none⟩=some (.int .i64 n)) (ht0:w.cell? t=some old) (hf0:w.frozen? t=false):
  Calls Tryz.prog 75 #[.iface 310 (.pointer (some ⟨pb,po,none⟩)),.iface 165 (.pointer (some t))] w fun ev w'=>ev=.returned (.bool true)∧w'=((((w.alloc (.cells #[.pointer (some t)] 165)).alloc (.cells #[.pointer (some ⟨4,165,none⟩),.pointer (some ⟨w.heap.size,0,none⟩),.int .u64 150] 238)).alloc (.cells #[.pointer (some ⟨4,165,none⟩),.pointer (some ⟨w.heap.size,0,none⟩),.int .u64 150] 238)).alloc (.cells #[.int .i64 n] 26)).setCell t (.int .i64 n):=by
 have h6:= @run_callFunc_extern Tryz.prog 130 _ (fun args=>ReflectliteValue.unpack (args.getD 0 (.tuple #[]))) Tryz.func130 (by kernel_rfl) (by kernel_rfl) (by kernel_rfl) (by kernel_rfl)
 have h7:= @run_callFunc_extern Tryz.prog 131 _ (ReflectliteValue.methodAny (ReflectliteValue.valueError "reflectlite.Value.Type" 0) (fun t _ _ _=>ReflectliteType.toType t)) Tryz.func131 (by kernel_rfl) (by kernel_rfl) (by kernel_rfl) (by kernel_rfl)
 have h8:= @run_callFunc_extern Tryz.prog 132 _ (ReflectliteValue.method (ReflectliteValue.valueError "reflectlite.Value.IsNil" 0) ReflectliteValue.isNil) Tryz.func132 (by kernel_rfl) (by kernel_rfl) (by kernel_rfl) (by kernel_rfl)
 have h27:= @run_callFunc_extern Tryz.prog 239 _ (ReflectliteType.abiMethod fun t=>do pure (.int .u8 (←Rtype.kind t))) Tryz.func239 (by kernel_rfl) (by kernel_rfl) (by kernel_rfl) (by kernel_rfl)
 have h37:= @run_callFunc_extern Tryz.prog 282 _ (ReflectliteType.method ReflectliteType.elem) Tryz.func282 (by kernel_rfl) (by kernel_rfl) (by kernel_rfl) (by kernel_rfl)
 have h38:= @run_callFunc_extern Tryz.prog 283 _ (ReflectliteType.relation "Implements" ReflectliteType.implements_) Tryz.func283 (by kernel_rfl) (by kernel_rfl) (by kernel_rfl) (by kernel_rfl)
 have h10:= @run_callFunc_extern Tryz.prog 113 _ ReflectliteType.typeOf Tryz.func113 (by kernel_rfl) (by kernel_rfl) (by kernel_rfl) (by kernel_rfl)
 have h35:= @run_callFunc_extern Tryz.prog 280 _ (ReflectliteType.relation "AssignableTo" ReflectliteType.assignableTo) Tryz.func280 (by kernel_rfl) (by kernel_rfl) (by kernel_rfl) (by kernel_rfl)
 have h11:= @run_callFunc_extern Tryz.prog 179 _ (ReflectliteValue.method (ReflectliteValue.valueError "reflectlite.Value.Elem" 0) ReflectliteValue.elem) Tryz.func179 (by kernel_rfl) (by kernel_rfl) (by kernel_rfl) (by kernel_rfl)
 have h12:= @run_callFunc_extern Tryz.prog 180 _ ReflectliteValue.set Tryz.func180 (by kernel_rfl) (by kernel_rfl) (by kernel_rfl) (by kernel_rfl)
 have mK:=E4
 have mE:=E5
 have mI:=CI
 have mA:=C6
 have f6:=FK
 have f7:=Js
 have k27:=Jt
 have k25:=Ju
 have e27:=Jv
 have i25:=Ec
 have tO:=GK
 have a25:=Ed
 have v25:=FL
 have tF:=ME
 have aF:=Jw
 have nA:=OV
 have hU:=Kh
 have mU:=MF
 have hlt:0<w.heap.size:=World.block_lt_of_cell? _ _ hg
 have htl:t.block<w.heap.size:=World.block_lt_of_cell? _ _ ht0
 have hpl:pb<w.heap.size:=World.block_lt_of_cell? _ _ he
 have n8:=HK ⟨w.heap.size,0,none⟩ t ((w.alloc (.cells #[.pointer (some t)] 165)).alloc (.cells #[.pointer (some ⟨4,165,none⟩),.pointer (some ⟨w.heap.size,0,none⟩),.int .u64 150] 238)) (by simp)
 have hg2:((w.alloc (.cells #[.pointer (some t)] 165)).alloc (.cells #[.pointer (some ⟨4,165,none⟩),.pointer (some ⟨w.heap.size,0,none⟩),.int .u64 150] 238)).cell? ⟨0,0,none⟩=some (.iface 268 (.agg #[.pointer (some ⟨4,93,none⟩)])):=by
  rw[World.cell?_alloc_lt _ _ ⟨0,0,none⟩ (by simp),World.cell?_alloc_lt _ _ ⟨0,0,none⟩ hlt];exact hg
 have he3:(((w.alloc (.cells #[.pointer (some t)] 165)).alloc (.cells #[.pointer (some ⟨4,165,none⟩),.pointer (some ⟨w.heap.size,0,none⟩),.int .u64 150] 238)).alloc (.cells #[.pointer (some ⟨4,165,none⟩),.pointer (some ⟨w.heap.size,0,none⟩),.int .u64 150] 238)).cell? ⟨pb,po+1,none⟩=some (.int .i64 n):=by
  rw[World.cell?_alloc_lt _ _ ⟨pb,po+1,none⟩ (by simp;omega),World.cell?_alloc_lt _ _ ⟨pb,po+1,none⟩ (by simp;omega),World.cell?_alloc_lt _ _ ⟨pb,po+1,none⟩ hpl];exact he
 have el:=HL ⟨w.heap.size,0,none⟩ t (((w.alloc (.cells #[.pointer (some t)] 165)).alloc (.cells #[.pointer (some ⟨4,165,none⟩),.pointer (some ⟨w.heap.size,0,none⟩),.int .u64 150] 238)).alloc (.cells #[.pointer (some ⟨4,165,none⟩),.pointer (some ⟨w.heap.size,0,none⟩),.int .u64 150] 238)) (by rw[World.cell?_alloc_lt _ _ ⟨w.heap.size,0,none⟩ (by simp;omega)];simp)
 have st:=LR t ⟨w.heap.size+1+1+1,0,none⟩ n old ((((w.alloc (.cells #[.pointer (some t)] 165)).alloc (.cells #[.pointer (some ⟨4,165,none⟩),.pointer (some ⟨w.heap.size,0,none⟩),.int .u64 150] 238)).alloc (.cells #[.pointer (some ⟨4,165,none⟩),.pointer (some ⟨w.heap.size,0,none⟩),.int .u64 150] 238)).alloc (.cells #[.int .i64 n] 26))
  (by rw[World.cell?_alloc_at _ _ _ _ (by simp)];rfl)
  (by rw[World.cell?_alloc_lt _ _ t (by simp;omega),World.cell?_alloc_lt _ _ t (by simp;omega),World.cell?_alloc_lt _ _ t (by simp;omega),World.cell?_alloc_lt _ _ t htl];exact ht0)
  (by rw[World.frozen?_alloc_old _ _ t (by simp;omega),World.frozen?_alloc_old _ _ t (by simp;omega),World.frozen?_alloc_old _ _ t (by simp;omega),World.frozen?_alloc_old _ _ t (Nat.ne_of_lt htl)];exact hf0)
 go_enter Tryz.func75,Tryz.ntmps75
 go_wp2
 refine wp_loop_rounds 2 ?_
 rw[rounds_succ]
 go_wp2
 rw[rounds_succ]
 go_wp2
 go_ret
 exact⟨rfl,rfl⟩
end Go.Proofs.YtpdmaenhenfofaaGreatDoor
