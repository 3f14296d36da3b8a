/- Contracts and laws, joined: Ea, Ec, Eg, Eh. No condition beside those that each theorem names. -/
import Derived.Test.YthjoclecnacdiaaGreatDoorProg
import Derived.WalkKit
import Derived.LaidEql
import Derived.Stop.Asserts
import Derived.RowKitTokens
import Derived.Lib.IfaceEq
set_option linter.unusedVariables false
set_option linter.unusedSimpArgs false
namespace Go.Proofs.YthjoclecnacdiaaGreatDoor
open Go.RowKit Go.Extern.Stop Go.Stop Go.Extern
theorem K1 (t:Addr) (w:World):(ReflectliteValue.unpack (.iface 108 (.pointer (some t)))).run Tryz.prog w
  =.ok (.agg #[.pointer (some ⟨4,108,none⟩),.pointer (some ⟨w.heap.size,0,none⟩),.int .u64 150]) (w.alloc (.cells #[.pointer (some t)] 108)):=by kernel_rfl
theorem P8 (a:Addr) (w:World):(ReflectliteValue.methodAny (ReflectliteValue.valueError "reflectlite.Value.Type" 0) (fun t _ _ _=>ReflectliteType.toType t) #[.agg #[.pointer (some ⟨4,108,none⟩),.pointer (some a),.int .u64 150]]).run Tryz.prog w
  =.ok (.iface 183 (.agg #[.pointer (some ⟨4,108,none⟩)])) w:=by kernel_rfl
theorem HX (h:Value) (w:World):(Go.method 466 183 (.agg #[h]) "Kind").run Tryz.prog w=.ok (260,h) w:=by kernel_rfl
theorem P9 (w:World):((ReflectliteType.abiMethod fun t=>Functor.map (fun a:Nat=>Value.int IntKind.u8 (a:Int)) (Rtype.kind t)) #[.pointer (some ⟨4,108,none⟩)]).run Tryz.prog w=.ok (.int .u8 22) w:=by kernel_rfl
theorem PA (w:World):((ReflectliteType.abiMethod fun t=>Functor.map (fun a:Nat=>Value.int IntKind.u8 (a:Int)) (Rtype.kind t)) #[.pointer (some ⟨4,28,none⟩)]).run Tryz.prog w=.ok (.int .u8 2) w:=by kernel_rfl
theorem Ux (z:Sem Value) (f:TypeId→Addr→Nat→Nat→Sem Value) (v:Value):
  ReflectliteValue.method z f #[v]=(do match←ReflectliteValue.parts v with|none=>z|some (t,a,fl)=>f t a fl (fl % 32)):=rfl
theorem Ns (a:Addr) (w:World):(ReflectliteValue.parts (.agg #[.pointer (some ⟨4,108,none⟩),.pointer (some a),.int .u64 150])).run Tryz.prog w=.ok (some (108,a,150)) w:=by kernel_rfl
theorem Nt (a p:Addr) (W:World) (ha:W.cell? a=some (.pointer (some p))):
  (ReflectliteValue.method (ReflectliteValue.valueError "reflectlite.Value.IsNil" 0) ReflectliteValue.isNil #[.agg #[.pointer (some ⟨4,108,none⟩),.pointer (some a),.int .u64 150]]).run Tryz.prog W=.ok (.bool false) W:=by
 rw[Ux]
 simp only[Sem.run_bind,Ns,Result.andThen]
 simp[ReflectliteValue.isNil,loadVar,isAgg,underlying,Tryz.underlying108,ha,Result.andThen]
theorem HY (h:Value) (w:World):(Go.method 466 183 (.agg #[h]) "Elem").run Tryz.prog w=.ok (277,.agg #[h]) w:=by kernel_rfl
theorem ED (h:Value) (w:World):(Go.method 466 183 (.agg #[h]) "Implements").run Tryz.prog w=.ok (278,.agg #[h]) w:=by kernel_rfl
theorem DV (h:Value) (w:World):(Go.method 466 183 (.agg #[h]) "AssignableTo").run Tryz.prog w=.ok (275,.agg #[h]) w:=by kernel_rfl
theorem PB (w:World):(ReflectliteType.method ReflectliteType.elem #[.agg #[.pointer (some ⟨4,108,none⟩)]]).run Tryz.prog w=.ok (.iface 183 (.agg #[.pointer (some ⟨4,28,none⟩)])) w:=by kernel_rfl
theorem Hi (w:World):(ReflectliteType.relation "Implements" ReflectliteType.implements_ #[.agg #[.pointer (some ⟨4,28,none⟩)],.iface 183 (.agg #[.pointer (some ⟨4,73,none⟩)])]).run Tryz.prog w=.ok (.bool true) w:=by kernel_rfl
theorem LW (v:Value) (w:World):(ReflectliteType.typeOf #[.iface 28 v]).run Tryz.prog w=.ok (.iface 183 (.agg #[.pointer (some ⟨4,28,none⟩)])) w:=by kernel_rfl
theorem Hj (w:World):(ReflectliteType.relation "AssignableTo" ReflectliteType.assignableTo #[.agg #[.pointer (some ⟨4,28,none⟩)],.iface 183 (.agg #[.pointer (some ⟨4,28,none⟩)])]).run Tryz.prog w=.ok (.bool true) w:=by kernel_rfl
theorem K2 (n:Int) (w:World):(ReflectliteValue.unpack (.iface 28 (.int .i64 n))).run Tryz.prog w
  =.ok (.agg #[.pointer (some ⟨4,28,none⟩),.pointer (some ⟨w.heap.size,0,none⟩),.int .u64 130]) (w.alloc (.cells #[.int .i64 n] 28)):=by kernel_rfl
theorem QX (w:World):(Rtype.elem? 108).run Tryz.prog w=.ok (some 28) w:=by kernel_rfl
theorem Y0 (p:Addr) (w:World):(ReflectliteValue.mk 28 p ReflectliteValue.flagAddr).run Tryz.prog w=.ok (.agg #[.pointer (some ⟨4,28,none⟩),.pointer (some p),.int .u64 386]) w:=by kernel_rfl
theorem Nu (a p:Addr) (W:World) (ha:W.cell? a=some (.pointer (some p))):
  (ReflectliteValue.method (ReflectliteValue.valueError "reflectlite.Value.Elem" 0) ReflectliteValue.elem #[.agg #[.pointer (some ⟨4,108,none⟩),.pointer (some a),.int .u64 150]]).run Tryz.prog W
   =.ok (.agg #[.pointer (some ⟨4,28,none⟩),.pointer (some p),.int .u64 386]) W:=by
 rw[Ux]
 simp only[Sem.run_bind,Ns,Result.andThen]
 simp[ReflectliteValue.elem,loadVar,isAgg,underlying,Tryz.underlying108,ha,Result.andThen,QX,Y0]
theorem Yz (v x:Value): ∃s1 s2 s3 s4 s5:String,ReflectliteValue.set #[v,x]=(do
  let (some (dst,a,fl),some (src,b,_)):=(←ReflectliteValue.parts v,←ReflectliteValue.parts x)
   |unsupported (.noEntry s1)
  if fl/ReflectliteValue.flagAddr % 2==0 then unsupported (.noEntry s2)
  let val←loadVar src b
  if←Rtype.directlyAssignable dst src then storeVar dst a val
  else if←Rtype.implements dst src then
   if(←Rtype.kind src)==20 then
    match val with
    |.nilIface=>unsupported (.noEntry s3)
    |_=>storeVar dst a val
   else storeVar dst a (.iface src val)
  else panicString (s4++(←Rtype.spelt src)++s5++(←Rtype.spelt dst))
  pure (.tuple #[])):=⟨_,_,_,_,_,rfl⟩
theorem QW (a:Addr) (w:World):(ReflectliteValue.parts (.agg #[.pointer (some ⟨4,28,none⟩),.pointer (some a),.int .u64 386])).run Tryz.prog w=.ok (some (28,a,386)) w:=by kernel_rfl
theorem Ta (a:Addr) (w:World):(ReflectliteValue.parts (.agg #[.pointer (some ⟨4,28,none⟩),.pointer (some a),.int .u64 130])).run Tryz.prog w=.ok (some (28,a,130)) w:=by kernel_rfl
theorem QY (w:World):(Rtype.directlyAssignable 28 28).run Tryz.prog w=.ok true w:=by kernel_rfl
theorem RU (ta b:Addr) (n:Int) (old:Value) (W:World) (hb:W.cell? b=some (.int .i64 n)) (ht:W.cell? ta=some old) (hf:W.frozen? ta=false):
  (ReflectliteValue.set #[.agg #[.pointer (some ⟨4,28,none⟩),.pointer (some ta),.int .u64 386],.agg #[.pointer (some ⟨4,28,none⟩),.pointer (some b),.int .u64 130]]).run Tryz.prog W
   =.ok (.tuple #[]) (W.setCell ta (.int .i64 n)):=by
 obtain⟨s1,s2,s3,s4,s5,hs⟩:=Yz (.agg #[.pointer (some ⟨4,28,none⟩),.pointer (some ta),.int .u64 386]) (.agg #[.pointer (some ⟨4,28,none⟩),.pointer (some b),.int .u64 130])
 rw[hs]
 simp only[Sem.run_bind,QW,Ta,Result.andThen]
 simp[ReflectliteValue.flagAddr,loadVar,isAgg,underlying,Tryz.underlying28,hb,Result.andThen,QY,storeVar,Value.cells,storeCells,Addr.add]
 rw[run_store Tryz.prog W ta _ _ (by rfl)]
 simp[ht,hf]
end Go.Proofs.YthjoclecnacdiaaGreatDoor
namespace Go.Proofs.YthjoclecnacdiaaGreatDoor
open Go.RowKit Go.Extern.Stop Go.Stop Go.Extern
theorem Nr (v:Value) (w:World):(Extern.ReflectliteType.typeOf #[.iface 28 v]).run Tryz.prog w=.ok (.iface 183 (.agg #[.pointer (some ⟨4,28,none⟩)])) w:=by kernel_rfl
theorem HW (w:World):((Extern.ReflectliteType.method fun t=>do Rtype.noPackHeld "Comparable" t;Functor.map (fun a=>Value.bool a.comparable) (typeInfo t)) #[.agg #[.pointer (some ⟨4,28,none⟩)]]).run Tryz.prog w=.ok (.bool true) w:=by kernel_rfl
theorem EC (v:Value) (w:World):(Go.method 466 183 v "Comparable").run Tryz.prog w=.ok (276,v) w:=by kernel_rfl
theorem RT:(Tryz.prog.info? 28).map (·.comparable)=some true:=by kernel_rfl
theorem RR (v:Value) (xT:TypeId) (w:World):(Instr.typeAssert (.iface 28 v) xT 185 true).run Tryz.prog w=.ok (.tuple #[.nilIface,.bool false]) w:=run_typeAssert_lacksB Tryz.underlying185 (by kernel_rfl) (by kernel_rfl) v xT w
theorem K0 (v:Value) (xT:TypeId) (w:World):(Instr.typeAssert (.iface 28 v) xT 188 true).run Tryz.prog w=.ok (.tuple #[.nilIface,.bool false]) w:=run_typeAssert_lacksB Tryz.underlying188 (by kernel_rfl) (by kernel_rfl) v xT w
theorem Jy (v:Value) (xT:TypeId) (w:World):(Instr.typeAssert (.iface 28 v) xT 190 true).run Tryz.prog w=.ok (.tuple #[.nilIface,.bool false]) w:=run_typeAssert_lacksB Tryz.underlying190 (by kernel_rfl) (by kernel_rfl) v xT w
end Go.Proofs.YthjoclecnacdiaaGreatDoor
namespace Go.Proofs.YthjoclecnacdiaaGreatDoor
open Go.RowKit Go.Extern.Stop Go.Stop Go.Extern
theorem K7 (v:Value) (w:World):(ReflectliteType.typeOf #[.iface 296 v]).run Tryz.prog w=.ok (.iface 183 (.agg #[.pointer (some ⟨4,296,none⟩)])) w:=by kernel_rfl
theorem HM (w:World):(ReflectliteType.relation "AssignableTo" ReflectliteType.assignableTo #[.agg #[.pointer (some ⟨4,296,none⟩)],.iface 183 (.agg #[.pointer (some ⟨4,28,none⟩)])]).run Tryz.prog w=.ok (.bool false) w:=by kernel_rfl
theorem Mx (v:Value) (xT:TypeId) (w:World):(Instr.typeAssert (.iface 296 v) xT 195 true).run Tryz.prog w=.ok (.tuple #[.nilIface,.bool false]) w:=run_typeAssert_lacksB Tryz.underlying195 (by kernel_rfl) (by kernel_rfl) v xT w
theorem I8 (v:Value) (xT:TypeId) (w:World):(Instr.typeAssert (.iface 296 v) xT 188 true).run Tryz.prog w=.ok (.tuple #[.iface 296 v,.bool true]) w:=run_typeAssert_hasB Tryz.underlying188 (by kernel_rfl) v xT w
theorem K8 (v:Value) (w:World):(Go.method 466 296 v "Unwrap").run Tryz.prog w=.ok (296,v) w:=by kernel_rfl
set_option maxRecDepth 100000 in
set_option maxHeartbeats 4000000 in
theorem U8 (pb po:Nat) (t:Addr) (n:Int) (old:Value) (w:World) (hg:w.cell? ⟨0,0,none⟩=some (.iface 183 (.agg #[.pointer (some ⟨4,73,none⟩)]))) (he:w.cell? ⟨pb,po+1,none⟩=some (.int .i64 n)) (ht0:w.cell? t=some old) (hf0:w.frozen? t=false):
  Calls Tryz.prog 54 #[.iface 296 (.pointer (some ⟨pb,po,none⟩)),.iface 108 (.pointer (some t))] w fun ev w'=>ev=.returned (.bool true)∧w'=((((w.alloc (.cells #[.pointer (some t)] 108)).alloc (.cells #[.pointer (some ⟨4,108,none⟩),.pointer (some ⟨w.heap.size,0,none⟩),.int .u64 150] 146)).alloc (.cells #[.pointer (some ⟨4,108,none⟩),.pointer (some ⟨w.heap.size,0,none⟩),.int .u64 150] 146)).alloc (.cells #[.int .i64 n] 28)).setCell t (.int .i64 n):=by
 have h6:= @run_callFunc_extern Tryz.prog 78 _ (fun args=>ReflectliteValue.unpack (args.getD 0 (.tuple #[]))) Tryz.func78 (by kernel_rfl) (by kernel_rfl) (by kernel_rfl) (by kernel_rfl)
 have h7:= @run_callFunc_extern Tryz.prog 79 _ (ReflectliteValue.methodAny (ReflectliteValue.valueError "reflectlite.Value.Type" 0) (fun t _ _ _=>ReflectliteType.toType t)) Tryz.func79 (by kernel_rfl) (by kernel_rfl) (by kernel_rfl) (by kernel_rfl)
 have h8:= @run_callFunc_extern Tryz.prog 80 _ (ReflectliteValue.method (ReflectliteValue.valueError "reflectlite.Value.IsNil" 0) ReflectliteValue.isNil) Tryz.func80 (by kernel_rfl) (by kernel_rfl) (by kernel_rfl) (by kernel_rfl)
 have h27:= @run_callFunc_extern Tryz.prog 260 _ (ReflectliteType.abiMethod fun t=>do pure (.int .u8 (←Rtype.kind t))) Tryz.func260 (by kernel_rfl) (by kernel_rfl) (by kernel_rfl) (by kernel_rfl)
 have h37:= @run_callFunc_extern Tryz.prog 277 _ (ReflectliteType.method ReflectliteType.elem) Tryz.func277 (by kernel_rfl) (by kernel_rfl) (by kernel_rfl) (by kernel_rfl)
 have h38:= @run_callFunc_extern Tryz.prog 278 _ (ReflectliteType.relation "Implements" ReflectliteType.implements_) Tryz.func278 (by kernel_rfl) (by kernel_rfl) (by kernel_rfl) (by kernel_rfl)
 have h10:= @run_callFunc_extern Tryz.prog 76 _ ReflectliteType.typeOf Tryz.func76 (by kernel_rfl) (by kernel_rfl) (by kernel_rfl) (by kernel_rfl)
 have h35:= @run_callFunc_extern Tryz.prog 275 _ (ReflectliteType.relation "AssignableTo" ReflectliteType.assignableTo) Tryz.func275 (by kernel_rfl) (by kernel_rfl) (by kernel_rfl) (by kernel_rfl)
 have h11:= @run_callFunc_extern Tryz.prog 101 _ (ReflectliteValue.method (ReflectliteValue.valueError "reflectlite.Value.Elem" 0) ReflectliteValue.elem) Tryz.func101 (by kernel_rfl) (by kernel_rfl) (by kernel_rfl) (by kernel_rfl)
 have h12:= @run_callFunc_extern Tryz.prog 102 _ ReflectliteValue.set Tryz.func102 (by kernel_rfl) (by kernel_rfl) (by kernel_rfl) (by kernel_rfl)
 have mK:=HX
 have mE:=HY
 have mI:=ED
 have mA:=DV
 have f6:=K1
 have f7:=P8
 have k27:=P9
 have k25:=PA
 have e27:=PB
 have i25:=Hi
 have tO:=LW
 have a25:=Hj
 have v25:=K2
 have tF:=K7
 have aF:=HM
 have nA:=Mx
 have hU:=I8
 have mU:=K8
 have hlt:0<w.heap.size:=World.block_lt_of_cell? _ _ hg
 have htl:t.block<w.heap.size:=World.block_lt_of_cell? _ _ ht0
 have hpl:pb<w.heap.size:=World.block_lt_of_cell? _ _ he
 have n8:=Nt ⟨w.heap.size,0,none⟩ t ((w.alloc (.cells #[.pointer (some t)] 108)).alloc (.cells #[.pointer (some ⟨4,108,none⟩),.pointer (some ⟨w.heap.size,0,none⟩),.int .u64 150] 146)) (by simp)
 have hg2:((w.alloc (.cells #[.pointer (some t)] 108)).alloc (.cells #[.pointer (some ⟨4,108,none⟩),.pointer (some ⟨w.heap.size,0,none⟩),.int .u64 150] 146)).cell? ⟨0,0,none⟩=some (.iface 183 (.agg #[.pointer (some ⟨4,73,none⟩)])):=by
  rw[World.cell?_alloc_lt _ _ ⟨0,0,none⟩ (by simp),World.cell?_alloc_lt _ _ ⟨0,0,none⟩ hlt];exact hg
 have he3:(((w.alloc (.cells #[.pointer (some t)] 108)).alloc (.cells #[.pointer (some ⟨4,108,none⟩),.pointer (some ⟨w.heap.size,0,none⟩),.int .u64 150] 146)).alloc (.cells #[.pointer (some ⟨4,108,none⟩),.pointer (some ⟨w.heap.size,0,none⟩),.int .u64 150] 146)).cell? ⟨pb,po+1,none⟩=some (.int .i64 n):=by
  rw[World.cell?_alloc_lt _ _ ⟨pb,po+1,none⟩ (by simp;omega),World.cell?_alloc_lt _ _ ⟨pb,po+1,none⟩ (by simp;omega),World.cell?_alloc_lt _ _ ⟨pb,po+1,none⟩ hpl];exact he
 have el:=Nu ⟨w.heap.size,0,none⟩ t (((w.alloc (.cells #[.pointer (some t)] 108)).alloc (.cells #[.pointer (some ⟨4,108,none⟩),.pointer (some ⟨w.heap.size,0,none⟩),.int .u64 150] 146)).alloc (.cells #[.pointer (some ⟨4,108,none⟩),.pointer (some ⟨w.heap.size,0,none⟩),.int .u64 150] 146)) (by rw[World.cell?_alloc_lt _ _ ⟨w.heap.size,0,none⟩ (by simp;omega)];simp)
 have st:=RU t ⟨w.heap.size+1+1+1,0,none⟩ n old ((((w.alloc (.cells #[.pointer (some t)] 108)).alloc (.cells #[.pointer (some ⟨4,108,none⟩),.pointer (some ⟨w.heap.size,0,none⟩),.int .u64 150] 146)).alloc (.cells #[.pointer (some ⟨4,108,none⟩),.pointer (some ⟨w.heap.size,0,none⟩),.int .u64 150] 146)).alloc (.cells #[.int .i64 n] 28))
  (by rw[World.cell?_alloc_at _ _ _ _ (by simp)];rfl)
  (by rw[World.cell?_alloc_lt _ _ t (by simp;omega),World.cell?_alloc_lt _ _ t (by simp;omega),World.cell?_alloc_lt _ _ t (by simp;omega),World.cell?_alloc_lt _ _ t htl];exact ht0)
  (by rw[World.frozen?_alloc_old _ _ t (by simp;omega),World.frozen?_alloc_old _ _ t (by simp;omega),World.frozen?_alloc_old _ _ t (by simp;omega),World.frozen?_alloc_old _ _ t (Nat.ne_of_lt htl)];exact hf0)
 go_enter Tryz.func54,Tryz.ntmps54
 go_wp2
 refine wp_loop_rounds 2 ?_
 rw[rounds_succ]
 go_wp2
 rw[rounds_succ]
 go_wp2
 go_ret
 exact⟨rfl,rfl⟩
theorem LX (v:Value) (w:World):(ReflectliteType.typeOf #[.iface 119 v]).run Tryz.prog w=.ok (.iface 183 (.agg #[.pointer (some ⟨4,119,none⟩)])) w:=by kernel_rfl
theorem I7 (w:World):(ReflectliteType.relation "AssignableTo" ReflectliteType.assignableTo #[.agg #[.pointer (some ⟨4,119,none⟩)],.iface 183 (.agg #[.pointer (some ⟨4,28,none⟩)])]).run Tryz.prog w=.ok (.bool false) w:=by kernel_rfl
theorem NZ (v:Value) (xT:TypeId) (w:World):(Instr.typeAssert (.iface 119 v) xT 195 true).run Tryz.prog w=.ok (.tuple #[.nilIface,.bool false]) w:=run_typeAssert_lacksB Tryz.underlying195 (by kernel_rfl) (by kernel_rfl) v xT w
theorem J0 (v:Value) (xT:TypeId) (w:World):(Instr.typeAssert (.iface 119 v) xT 188 true).run Tryz.prog w=.ok (.tuple #[.iface 119 v,.bool true]) w:=run_typeAssert_hasB Tryz.underlying188 (by kernel_rfl) v xT w
theorem LY (v:Value) (w:World):(Go.method 466 119 v "Unwrap").run Tryz.prog w=.ok (268,v) w:=by kernel_rfl
set_option maxRecDepth 100000 in
set_option maxHeartbeats 4000000 in
theorem VX (pb po:Nat) (t:Addr) (n:Int) (old:Value) (w:World) (hg:w.cell? ⟨0,0,none⟩=some (.iface 183 (.agg #[.pointer (some ⟨4,73,none⟩)]))) (he:w.cell? ⟨pb,po+1,none⟩=some (.int .i64 n)) (ht0:w.cell? t=some old) (hf0:w.frozen? t=false):
  Calls Tryz.prog 54 #[.iface 119 (.pointer (some ⟨pb,po,none⟩)),.iface 108 (.pointer (some t))] w fun ev w'=>ev=.returned (.bool true)∧w'=((((w.alloc (.cells #[.pointer (some t)] 108)).alloc (.cells #[.pointer (some ⟨4,108,none⟩),.pointer (some ⟨w.heap.size,0,none⟩),.int .u64 150] 146)).alloc (.cells #[.pointer (some ⟨4,108,none⟩),.pointer (some ⟨w.heap.size,0,none⟩),.int .u64 150] 146)).alloc (.cells #[.int .i64 n] 28)).setCell t (.int .i64 n):=by
 have h6:= @run_callFunc_extern Tryz.prog 78 _ (fun args=>ReflectliteValue.unpack (args.getD 0 (.tuple #[]))) Tryz.func78 (by kernel_rfl) (by kernel_rfl) (by kernel_rfl) (by kernel_rfl)
 have h7:= @run_callFunc_extern Tryz.prog 79 _ (ReflectliteValue.methodAny (ReflectliteValue.valueError "reflectlite.Value.Type" 0) (fun t _ _ _=>ReflectliteType.toType t)) Tryz.func79 (by kernel_rfl) (by kernel_rfl) (by kernel_rfl) (by kernel_rfl)
 have h8:= @run_callFunc_extern Tryz.prog 80 _ (ReflectliteValue.method (ReflectliteValue.valueError "reflectlite.Value.IsNil" 0) ReflectliteValue.isNil) Tryz.func80 (by kernel_rfl) (by kernel_rfl) (by kernel_rfl) (by kernel_rfl)
 have h27:= @run_callFunc_extern Tryz.prog 260 _ (ReflectliteType.abiMethod fun t=>do pure (.int .u8 (←Rtype.kind t))) Tryz.func260 (by kernel_rfl) (by kernel_rfl) (by kernel_rfl) (by kernel_rfl)
 have h37:= @run_callFunc_extern Tryz.prog 277 _ (ReflectliteType.method ReflectliteType.elem) Tryz.func277 (by kernel_rfl) (by kernel_rfl) (by kernel_rfl) (by kernel_rfl)
 have h38:= @run_callFunc_extern Tryz.prog 278 _ (ReflectliteType.relation "Implements" ReflectliteType.implements_) Tryz.func278 (by kernel_rfl) (by kernel_rfl) (by kernel_rfl) (by kernel_rfl)
 have h10:= @run_callFunc_extern Tryz.prog 76 _ ReflectliteType.typeOf Tryz.func76 (by kernel_rfl) (by kernel_rfl) (by kernel_rfl) (by kernel_rfl)
 have h35:= @run_callFunc_extern Tryz.prog 275 _ (ReflectliteType.relation "AssignableTo" ReflectliteType.assignableTo) Tryz.func275 (by kernel_rfl) (by kernel_rfl) (by kernel_rfl) (by kernel_rfl)
 have h11:= @run_callFunc_extern Tryz.prog 101 _ (ReflectliteValue.method (ReflectliteValue.valueError "reflectlite.Value.Elem" 0) ReflectliteValue.elem) Tryz.func101 (by kernel_rfl) (by kernel_rfl) (by kernel_rfl) (by kernel_rfl)
 have h12:= @run_callFunc_extern Tryz.prog 102 _ ReflectliteValue.set Tryz.func102 (by kernel_rfl) (by kernel_rfl) (by kernel_rfl) (by kernel_rfl)
 have mK:=HX
 have mE:=HY
 have mI:=ED
 have mA:=DV
 have f6:=K1
 have f7:=P8
 have k27:=P9
 have k25:=PA
 have e27:=PB
 have i25:=Hi
 have tO:=LW
 have a25:=Hj
 have v25:=K2
 have tF:=LX
 have aF:=I7
 have nA:=NZ
 have hU:=J0
 have mU:=LY
 have hlt:0<w.heap.size:=World.block_lt_of_cell? _ _ hg
 have htl:t.block<w.heap.size:=World.block_lt_of_cell? _ _ ht0
 have hpl:pb<w.heap.size:=World.block_lt_of_cell? _ _ he
 have n8:=Nt ⟨w.heap.size,0,none⟩ t ((w.alloc (.cells #[.pointer (some t)] 108)).alloc (.cells #[.pointer (some ⟨4,108,none⟩),.pointer (some ⟨w.heap.size,0,none⟩),.int .u64 150] 146)) (by simp)
 have hg2:((w.alloc (.cells #[.pointer (some t)] 108)).alloc (.cells #[.pointer (some ⟨4,108,none⟩),.pointer (some ⟨w.heap.size,0,none⟩),.int .u64 150] 146)).cell? ⟨0,0,none⟩=some (.iface 183 (.agg #[.pointer (some ⟨4,73,none⟩)])):=by
  rw[World.cell?_alloc_lt _ _ ⟨0,0,none⟩ (by simp),World.cell?_alloc_lt _ _ ⟨0,0,none⟩ hlt];exact hg
 have he3:(((w.alloc (.cells #[.pointer (some t)] 108)).alloc (.cells #[.pointer (some ⟨4,108,none⟩),.pointer (some ⟨w.heap.size,0,none⟩),.int .u64 150] 146)).alloc (.cells #[.pointer (some ⟨4,108,none⟩),.pointer (some ⟨w.heap.size,0,none⟩),.int .u64 150] 146)).cell? ⟨pb,po+1,none⟩=some (.int .i64 n):=by
  rw[World.cell?_alloc_lt _ _ ⟨pb,po+1,none⟩ (by simp;omega),World.cell?_alloc_lt _ _ ⟨pb,po+1,none⟩ (by simp;omega),World.cell?_alloc_lt _ _ ⟨pb,po+1,none⟩ hpl];exact he
 have el:=Nu ⟨w.heap.size,0,none⟩ t (((w.alloc (.cells #[.pointer (some t)] 108)).alloc (.cells #[.pointer (some ⟨4,108,none⟩),.pointer (some ⟨w.heap.size,0,none⟩),.int .u64 150] 146)).alloc (.cells #[.pointer (some ⟨4,108,none⟩),.pointer (some ⟨w.heap.size,0,none⟩),.int .u64 150] 146)) (by rw[World.cell?_alloc_lt _ _ ⟨w.heap.size,0,none⟩ (by simp;omega)];simp)
 have st:=RU t ⟨w.heap.size+1+1+1,0,none⟩ n old ((((w.alloc (.cells #[.pointer (some t)] 108)).alloc (.cells #[.pointer (some ⟨4,108,none⟩),.pointer (some ⟨w.heap.size,0,none⟩),.int .u64 150] 146)).alloc (.cells #[.pointer (some ⟨4,108,none⟩),.pointer (some ⟨w.heap.size,0,none⟩),.int .u64 150] 146)).alloc (.cells #[.int .i64 n] 28))
  (by rw[World.cell?_alloc_at _ _ _ _ (by simp)];rfl)
  (by rw[World.cell?_alloc_lt _ _ t (by simp;omega),World.cell?_alloc_lt _ _ t (by simp;omega),World.cell?_alloc_lt _ _ t (by simp;omega),World.cell?_alloc_lt _ _ t htl];exact ht0)
  (by rw[World.frozen?_alloc_old _ _ t (by simp;omega),World.frozen?_alloc_old _ _ t (by simp;omega),World.frozen?_alloc_old _ _ t (by simp;omega),World.frozen?_alloc_old _ _ t (Nat.ne_of_lt htl)];exact hf0)
 go_enter Tryz.func54,Tryz.ntmps54
 go_wp2
 refine wp_loop_rounds 2 ?_
 rw[rounds_succ]
 go_wp2
 rw[rounds_succ]
 go_wp2
 go_ret
 exact⟨rfl,rfl⟩
end Go.Proofs.YthjoclecnacdiaaGreatDoor
namespace Go.Proofs.YthjoclecnacdiaaGreatDoor
open Go.RowKit Go.Extern.Stop Go.Stop Go.Extern
theorem Jz (v:Value) (xT:TypeId) (w:World):(Instr.typeAssert (.iface 119 v) xT 185 true).run Tryz.prog w=.ok (.tuple #[.nilIface,.bool false]) w:=run_typeAssert_lacksB Tryz.underlying185 (by kernel_rfl) (by kernel_rfl) v xT w
theorem F3 (v:Value) (xT:TypeId) (w:World):(Instr.typeAssert (.iface 119 v) xT 188 true).run Tryz.prog w=.ok (.tuple #[.iface 119 v,.bool true]) w:=run_typeAssert_hasB Tryz.underlying188 (by kernel_rfl) v xT w
theorem Hh (v:Value) (w:World):(Go.method 466 119 v "Unwrap").run Tryz.prog w=.ok (268,v) w:=by kernel_rfl
set_option maxRecDepth 100000 in
set_option maxHeartbeats 4000000 in
theorem Ul (pb po:Nat) (n k:Int) (w:World) (he:w.cell? ⟨pb,po+1,none⟩=some (.int .i64 n)) (hnk:n=k):
  Calls Tryz.prog 53 #[.iface 119 (.pointer (some ⟨pb,po,none⟩)),.iface 28 (.int .i64 k)] w fun ev w'=>ev=.returned (.bool true)∧w'=w:=by
 subst hnk
 have h8:= @run_callFunc_extern Tryz.prog 76 _ Extern.ReflectliteType.typeOf Tryz.func76 (by kernel_rfl) (by kernel_rfl) (by kernel_rfl) (by kernel_rfl)
 have h32:= @run_callFunc_extern Tryz.prog 276 _ (Extern.ReflectliteType.method fun t=>do Rtype.noPackHeld "Comparable" t;pure (.bool (←typeInfo t).comparable)) Tryz.func276 (by kernel_rfl) (by kernel_rfl) (by kernel_rfl) (by kernel_rfl)
 have tT:=Nr
 have cT:=HW
 have mR:=EC
 have nE:=RR
 have uE:=K0
 have vE:=Jy
 have nW:=Jz
 have uW:=F3
 have mU:=Hh
 have heq:(binOp .eql 73 (.iface 28 (.int .i64 n)) (.iface 28 (.int .i64 n))).run Tryz.prog w=.ok (.bool true) w:=by
  rw[Go.Lib.run_eql_iface_int (P:=Tryz.prog) w n n Tryz.underlying73 RT Tryz.underlying28];simp
 have hty:=run_eql_iface_types (P:=Tryz.prog) 119 28 (.pointer (some ⟨pb,po,none⟩)) (.int .i64 n) Tryz.underlying73 (by decide) w
 go_enter Tryz.func53,Tryz.ntmps53
 go_wp2
 refine wp_loop_rounds 2 ?_
 rw[rounds_succ]
 go_wp2
 rw[rounds_succ]
 go_wp2
 go_ret
 exact⟨rfl,rfl⟩
set_option maxRecDepth 100000 in
set_option maxHeartbeats 4000000 in
theorem Um (pb po:Nat) (n k:Int) (w:World) (he:w.cell? ⟨pb,po+1,none⟩=some (.int .i64 n)) (hnk:n≠k):
  Calls Tryz.prog 53 #[.iface 119 (.pointer (some ⟨pb,po,none⟩)),.iface 28 (.int .i64 k)] w fun ev w'=>ev=.returned (.bool false)∧w'=w:=by
 skip
 have h8:= @run_callFunc_extern Tryz.prog 76 _ Extern.ReflectliteType.typeOf Tryz.func76 (by kernel_rfl) (by kernel_rfl) (by kernel_rfl) (by kernel_rfl)
 have h32:= @run_callFunc_extern Tryz.prog 276 _ (Extern.ReflectliteType.method fun t=>do Rtype.noPackHeld "Comparable" t;pure (.bool (←typeInfo t).comparable)) Tryz.func276 (by kernel_rfl) (by kernel_rfl) (by kernel_rfl) (by kernel_rfl)
 have tT:=Nr
 have cT:=HW
 have mR:=EC
 have nE:=RR
 have uE:=K0
 have vE:=Jy
 have nW:=Jz
 have uW:=F3
 have mU:=Hh
 have heq:(binOp .eql 73 (.iface 28 (.int .i64 n)) (.iface 28 (.int .i64 k))).run Tryz.prog w=.ok (.bool false) w:=by
  rw[Go.Lib.run_eql_iface_int (P:=Tryz.prog) w n k Tryz.underlying73 RT Tryz.underlying28];simp[hnk]
 have hty:=run_eql_iface_types (P:=Tryz.prog) 119 28 (.pointer (some ⟨pb,po,none⟩)) (.int .i64 k) Tryz.underlying73 (by decide) w
 go_enter Tryz.func53,Tryz.ntmps53
 go_wp2
 refine wp_loop_rounds 2 ?_
 rw[rounds_succ]
 go_wp2
 rw[rounds_succ]
 go_wp2
 go_ret
 exact⟨rfl,rfl⟩
end Go.Proofs.YthjoclecnacdiaaGreatDoor
