/- The same for the other faults; written by mkis.py. -/
import Derived.Test.YtpdmaenhenfofaaGreatDoorZEc
set_option linter.unusedVariables false
set_option linter.unusedSimpArgs false
namespace Go.Proofs.YtpdmaenhenfofaaGreatDoor
open Go.RowKit Go.Extern.Stop Go.Stop Go.Extern
theorem Ng (v:Value) (xT:TypeId) (w:World):(Instr.typeAssert (.iface 290 v) xT 270 true).run Tryz.prog w=.ok (.tuple #[.nilIface,.bool false]) w:=run_typeAssert_lacksB Tryz.underlying270 (by kernel_rfl) (by kernel_rfl) v xT w
theorem HI (v:Value) (xT:TypeId) (w:World):(Instr.typeAssert (.iface 290 v) xT 273 true).run Tryz.prog w=.ok (.tuple #[.iface 290 v,.bool true]) w:=run_typeAssert_hasB Tryz.underlying273 (by kernel_rfl) v xT w
theorem Kp (v:Value) (w:World):(Go.method 473 290 v "Unwrap").run Tryz.prog w=.ok (293,v) w:=by kernel_rfl
set_option maxRecDepth 100000 in
set_option maxHeartbeats 4000000 in
theorem Adx (pb po:Nat) (n k:Int) (w:World) (he:w.cell? ⟨pb,po+1,none⟩=some (.int .i64 n)) (hnk:n=k):
  Calls Tryz.prog 62 #[.iface 290 (.pointer (some ⟨pb,po,none⟩)),.iface 26 (.int .i64 k)] w fun ev w'=>ev=.returned (.bool true)∧w'=w:=by
 subst hnk
 have h8:= @run_callFunc_extern Tryz.prog 113 _ Extern.ReflectliteType.typeOf Tryz.func113 (by kernel_rfl) (by kernel_rfl) (by kernel_rfl) (by kernel_rfl)
 have h32:= @run_callFunc_extern Tryz.prog 281 _ (Extern.ReflectliteType.method fun t=>do Rtype.noPackHeld "Comparable" t;pure (.bool (←typeInfo t).comparable)) Tryz.func281 (by kernel_rfl) (by kernel_rfl) (by kernel_rfl) (by kernel_rfl)
 have tT:=Gw
 have cT:=DI
 have mR:=C0
 have nE:=JR
 have uE:=EK
 have vE:=Ek
 have nW:=Ng
 have uW:=HI
 have mU:=Kp
 have heq:(binOp .eql 93 (.iface 26 (.int .i64 n)) (.iface 26 (.int .i64 n))).run Tryz.prog w=.ok (.bool true) w:=by
  rw[Go.Lib.run_eql_iface_int (P:=Tryz.prog) w n n Tryz.underlying93 JS Tryz.underlying26];simp
 have hty:=run_eql_iface_types (P:=Tryz.prog) 290 26 (.pointer (some ⟨pb,po,none⟩)) (.int .i64 n) Tryz.underlying93 (by decide) w
 go_enter Tryz.func62,Tryz.ntmps62
 go_wp2
 refine wp_loop_rounds 2 ?_
 rw[rounds_succ]
 go_wp2
 rw[rounds_succ]
 go_wp2
 go_ret
 exact⟨rfl,rfl⟩
set_option maxRecDepth 100000 in
set_option maxHeartbeats 4000000 in
theorem Ady (pb po:Nat) (n k:Int) (w:World) (he:w.cell? ⟨pb,po+1,none⟩=some (.int .i64 n)) (hnk:n≠k):
  Calls Tryz.prog 62 #[.iface 290 (.pointer (some ⟨pb,po,none⟩)),.iface 26 (.int .i64 k)] w fun ev w'=>ev=.returned (.bool false)∧w'=w:=by
 skip
 have h8:= @run_callFunc_extern Tryz.prog 113 _ Extern.ReflectliteType.typeOf Tryz.func113 (by kernel_rfl) (by kernel_rfl) (by kernel_rfl) (by kernel_rfl)
 have h32:= @run_callFunc_extern Tryz.prog 281 _ (Extern.ReflectliteType.method fun t=>do Rtype.noPackHeld "Comparable" t;pure (.bool (←typeInfo t).comparable)) Tryz.func281 (by kernel_rfl) (by kernel_rfl) (by kernel_rfl) (by kernel_rfl)
 have tT:=Gw
 have cT:=DI
 have mR:=C0
 have nE:=JR
 have uE:=EK
 have vE:=Ek
 have nW:=Ng
 have uW:=HI
 have mU:=Kp
 have heq:(binOp .eql 93 (.iface 26 (.int .i64 n)) (.iface 26 (.int .i64 k))).run Tryz.prog w=.ok (.bool false) w:=by
  rw[Go.Lib.run_eql_iface_int (P:=Tryz.prog) w n k Tryz.underlying93 JS Tryz.underlying26];simp[hnk]
 have hty:=run_eql_iface_types (P:=Tryz.prog) 290 26 (.pointer (some ⟨pb,po,none⟩)) (.int .i64 k) Tryz.underlying93 (by decide) w
 go_enter Tryz.func62,Tryz.ntmps62
 go_wp2
 refine wp_loop_rounds 2 ?_
 rw[rounds_succ]
 go_wp2
 rw[rounds_succ]
 go_wp2
 go_ret
 exact⟨rfl,rfl⟩
theorem Jr (v:Value) (xT:TypeId) (w:World):(Instr.typeAssert (.iface 310 v) xT 270 true).run Tryz.prog w=.ok (.tuple #[.nilIface,.bool false]) w:=run_typeAssert_lacksB Tryz.underlying270 (by kernel_rfl) (by kernel_rfl) v xT w
theorem FY (v:Value) (xT:TypeId) (w:World):(Instr.typeAssert (.iface 310 v) xT 273 true).run Tryz.prog w=.ok (.tuple #[.iface 310 v,.bool true]) w:=run_typeAssert_hasB Tryz.underlying273 (by kernel_rfl) v xT w
theorem HJ (v:Value) (w:World):(Go.method 473 310 v "Unwrap").run Tryz.prog w=.ok (295,v) w:=by kernel_rfl
set_option maxRecDepth 100000 in
set_option maxHeartbeats 4000000 in
theorem Wj (pb po:Nat) (n k:Int) (w:World) (he:w.cell? ⟨pb,po+1,none⟩=some (.int .i64 n)) (hnk:n=k):
  Calls Tryz.prog 62 #[.iface 310 (.pointer (some ⟨pb,po,none⟩)),.iface 26 (.int .i64 k)] w fun ev w'=>ev=.returned (.bool true)∧w'=w:=by
 subst hnk
 have h8:= @run_callFunc_extern Tryz.prog 113 _ Extern.ReflectliteType.typeOf Tryz.func113 (by kernel_rfl) (by kernel_rfl) (by kernel_rfl) (by kernel_rfl)
 have h32:= @run_callFunc_extern Tryz.prog 281 _ (Extern.ReflectliteType.method fun t=>do Rtype.noPackHeld "Comparable" t;pure (.bool (←typeInfo t).comparable)) Tryz.func281 (by kernel_rfl) (by kernel_rfl) (by kernel_rfl) (by kernel_rfl)
 have tT:=Gw
 have cT:=DI
 have mR:=C0
 have nE:=JR
 have uE:=EK
 have vE:=Ek
 have nW:=Jr
 have uW:=FY
 have mU:=HJ
 have heq:(binOp .eql 93 (.iface 26 (.int .i64 n)) (.iface 26 (.int .i64 n))).run Tryz.prog w=.ok (.bool true) w:=by
  rw[Go.Lib.run_eql_iface_int (P:=Tryz.prog) w n n Tryz.underlying93 JS Tryz.underlying26];simp
 have hty:=run_eql_iface_types (P:=Tryz.prog) 310 26 (.pointer (some ⟨pb,po,none⟩)) (.int .i64 n) Tryz.underlying93 (by decide) w
 go_enter Tryz.func62,Tryz.ntmps62
 go_wp2
 refine wp_loop_rounds 2 ?_
 rw[rounds_succ]
 go_wp2
 rw[rounds_succ]
 go_wp2
 go_ret
 exact⟨rfl,rfl⟩
set_option maxRecDepth 100000 in
set_option maxHeartbeats 4000000 in
theorem Wl (pb po:Nat) (n k:Int) (w:World) (he:w.cell? ⟨pb,po+1,none⟩=some (.int .i64 n)) (hnk:n≠k):
  Calls Tryz.prog 62 #[.iface 310 (.pointer (some ⟨pb,po,none⟩)),.iface 26 (.int .i64 k)] w fun ev w'=>ev=.returned (.bool false)∧w'=w:=by
 skip
 have h8:= @run_callFunc_extern Tryz.prog 113 _ Extern.ReflectliteType.typeOf Tryz.func113 (by kernel_rfl) (by kernel_rfl) (by kernel_rfl) (by kernel_rfl)
 have h32:= @run_callFunc_extern Tryz.prog 281 _ (Extern.ReflectliteType.method fun t=>do Rtype.noPackHeld "Comparable" t;pure (.bool (←typeInfo t).comparable)) Tryz.func281 (by kernel_rfl) (by kernel_rfl) (by kernel_rfl) (by kernel_rfl)
 have tT:=Gw
 have cT:=DI
 have mR:=C0
 have nE:=JR
 have uE:=EK
 have vE:=Ek
 have nW:=Jr
 have uW:=FY
 have mU:=HJ
 have heq:(binOp .eql 93 (.iface 26 (.int .i64 n)) (.iface 26 (.int .i64 k))).run Tryz.prog w=.ok (.bool false) w:=by
  rw[Go.Lib.run_eql_iface_int (P:=Tryz.prog) w n k Tryz.underlying93 JS Tryz.underlying26];simp[hnk]
 have hty:=run_eql_iface_types (P:=Tryz.prog) 310 26 (.pointer (some ⟨pb,po,none⟩)) (.int .i64 k) Tryz.underlying93 (by decide) w
 go_enter Tryz.func62,Tryz.ntmps62
 go_wp2
 refine wp_loop_rounds 2 ?_
 rw[rounds_succ]
 go_wp2
 rw[rounds_succ]
 go_wp2
 go_ret
 exact⟨rfl,rfl⟩
end Go.Proofs.YtpdmaenhenfofaaGreatDoor
