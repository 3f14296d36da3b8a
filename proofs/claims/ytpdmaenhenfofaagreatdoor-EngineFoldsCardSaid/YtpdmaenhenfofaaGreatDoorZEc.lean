/- errors.Is at a target that is an api.Errno, by its contracts; written by mkis.py after the worked text SentryIs. -/
import Derived.Test.YtpdmaenhenfofaaGreatDoorProg
import Derived.WalkKit
import Derived.LaidEql
import Derived.Stop.Asserts
import Derived.RowKitTokens
import Derived.Lib.IfaceEq
set_option linter.unusedVariables false
set_option linter.unusedSimpArgs false
namespace Go.Proofs.YtpdmaenhenfofaaGreatDoor
open Go.RowKit Go.Extern.Stop Go.Stop Go.Extern
theorem Gw (v:Value) (w:World):(Extern.ReflectliteType.typeOf #[.iface 26 v]).run Tryz.prog w=.ok (.iface 268 (.agg #[.pointer (some ⟨4,26,none⟩)])) w:=by kernel_rfl
theorem DI (w:World):((Extern.ReflectliteType.method fun t=>do Rtype.noPackHeld "Comparable" t;Functor.map (fun a=>Value.bool a.comparable) (typeInfo t)) #[.agg #[.pointer (some ⟨4,26,none⟩)]]).run Tryz.prog w=.ok (.bool true) w:=by kernel_rfl
theorem C0 (v:Value) (w:World):(Go.method 473 268 v "Comparable").run Tryz.prog w=.ok (281,v) w:=by kernel_rfl
theorem JS:(Tryz.prog.info? 26).map (·.comparable)=some true:=by kernel_rfl
theorem JR (v:Value) (xT:TypeId) (w:World):(Instr.typeAssert (.iface 26 v) xT 270 true).run Tryz.prog w=.ok (.tuple #[.nilIface,.bool false]) w:=run_typeAssert_lacksB Tryz.underlying270 (by kernel_rfl) (by kernel_rfl) v xT w
theorem EK (v:Value) (xT:TypeId) (w:World):(Instr.typeAssert (.iface 26 v) xT 273 true).run Tryz.prog w=.ok (.tuple #[.nilIface,.bool false]) w:=run_typeAssert_lacksB Tryz.underlying273 (by kernel_rfl) (by kernel_rfl) v xT w
theorem Ek (v:Value) (xT:TypeId) (w:World):(Instr.typeAssert (.iface 26 v) xT 275 true).run Tryz.prog w=.ok (.tuple #[.nilIface,.bool false]) w:=run_typeAssert_lacksB Tryz.underlying275 (by kernel_rfl) (by kernel_rfl) v xT w
theorem Aid (k:Int) (w:World):Calls Tryz.prog 62 #[.nilIface,.iface 26 (.int .i64 k)] w fun e w'=>e=.returned (.bool false)∧w'=w:=by
 have hn:=run_eql_iface_nil_left (P:=Tryz.prog) w 26 (.int .i64 k) Tryz.underlying93
 go_enter Tryz.func62,Tryz.ntmps62
 go_wp2
 go_ret
 exact⟨rfl,rfl⟩
theorem Kq (v:Value) (xT:TypeId) (w:World):(Instr.typeAssert (.iface 97 v) xT 270 true).run Tryz.prog w=.ok (.tuple #[.nilIface,.bool false]) w:=run_typeAssert_lacksB Tryz.underlying270 (by kernel_rfl) (by kernel_rfl) v xT w
theorem GJ (v:Value) (xT:TypeId) (w:World):(Instr.typeAssert (.iface 97 v) xT 273 true).run Tryz.prog w=.ok (.tuple #[.iface 97 v,.bool true]) w:=run_typeAssert_hasB Tryz.underlying273 (by kernel_rfl) v xT w
theorem IF (v:Value) (w:World):(Go.method 473 97 v "Unwrap").run Tryz.prog w=.ok (244,v) w:=by kernel_rfl
set_option maxRecDepth 100000 in
set_option maxHeartbeats 4000000 in
theorem Yy (pb po:Nat) (n k:Int) (w:World) (he:w.cell? ⟨pb,po+1,none⟩=some (.int .i64 n)) (hnk:n=k):
  Calls Tryz.prog 62 #[.iface 97 (.pointer (some ⟨pb,po,none⟩)),.iface 26 (.int .i64 k)] w fun ev w'=>ev=.returned (.bool true)∧w'=w:=by
 subst hnk
 have h8:= @run_callFunc_extern Tryz.prog 113 _ Extern.ReflectliteType.typeOf Tryz.func113 (by kernel_rfl) (by kernel_rfl) (by kernel_rfl) (by kernel_rfl)
 have h32:= @run_callFunc_extern Tryz.prog 281 _ (Extern.ReflectliteType.method fun t=>do Rtype.noPackHeld "Comparable" t;pure (.bool (←typeInfo t).comparable)) Tryz.func281 (by kernel_rfl) (by kernel_rfl) (by kernel_rfl) (by kernel_rfl)
 have tT:=Gw
 have cT:=DI
 have mR:=C0
 have nE:=JR
 have uE:=EK
 have vE:=Ek
 have nW:=Kq
 have uW:=GJ
 have mU:=IF
 have heq:(binOp .eql 93 (.iface 26 (.int .i64 n)) (.iface 26 (.int .i64 n))).run Tryz.prog w=.ok (.bool true) w:=by
  rw[Go.Lib.run_eql_iface_int (P:=Tryz.prog) w n n Tryz.underlying93 JS Tryz.underlying26];simp
 have hty:=run_eql_iface_types (P:=Tryz.prog) 97 26 (.pointer (some ⟨pb,po,none⟩)) (.int .i64 n) Tryz.underlying93 (by decide) w
 go_enter Tryz.func62,Tryz.ntmps62
 go_wp2
 refine wp_loop_rounds 2 ?_
 rw[rounds_succ]
 go_wp2
 rw[rounds_succ]
 go_wp2
 go_ret
 exact⟨rfl,rfl⟩
set_option maxRecDepth 100000 in
set_option maxHeartbeats 4000000 in
theorem Yz (pb po:Nat) (n k:Int) (w:World) (he:w.cell? ⟨pb,po+1,none⟩=some (.int .i64 n)) (hnk:n≠k):
  Calls Tryz.prog 62 #[.iface 97 (.pointer (some ⟨pb,po,none⟩)),.iface 26 (.int .i64 k)] w fun ev w'=>ev=.returned (.bool false)∧w'=w:=by
 skip
 have h8:= @run_callFunc_extern Tryz.prog 113 _ Extern.ReflectliteType.typeOf Tryz.func113 (by kernel_rfl) (by kernel_rfl) (by kernel_rfl) (by kernel_rfl)
 have h32:= @run_callFunc_extern Tryz.prog 281 _ (Extern.ReflectliteType.method fun t=>do Rtype.noPackHeld "Comparable" t;pure (.bool (←typeInfo t).comparable)) Tryz.func281 (by kernel_rfl) (by kernel_rfl) (by kernel_rfl) (by kernel_rfl)
 have tT:=Gw
 have cT:=DI
 have mR:=C0
 have nE:=JR
 have uE:=EK
 have vE:=Ek
 have nW:=Kq
 have uW:=GJ
 have mU:=IF
 have heq:(binOp .eql 93 (.iface 26 (.int .i64 n)) (.iface 26 (.int .i64 k))).run Tryz.prog w=.ok (.bool false) w:=by
  rw[Go.Lib.run_eql_iface_int (P:=Tryz.prog) w n k Tryz.underlying93 JS Tryz.underlying26];simp[hnk]
 have hty:=run_eql_iface_types (P:=Tryz.prog) 97 26 (.pointer (some ⟨pb,po,none⟩)) (.int .i64 k) Tryz.underlying93 (by decide) w
 go_enter Tryz.func62,Tryz.ntmps62
 go_wp2
 refine wp_loop_rounds 2 ?_
 rw[rounds_succ]
 go_wp2
 rw[rounds_succ]
 go_wp2
 go_ret
 exact⟨rfl,rfl⟩
end Go.Proofs.YtpdmaenhenfofaaGreatDoor
