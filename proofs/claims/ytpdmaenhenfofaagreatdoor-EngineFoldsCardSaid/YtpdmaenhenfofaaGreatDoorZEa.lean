/- errors.As at a target of type *api.Errno, by its contracts: an error of a fault's type, whose Unwrap hands the code back; written by mkas.py after the worked text ToyasAs. -/
import Derived.Test.YtpdmaenhenfofaaGreatDoorProg
import Derived.WalkKit
import Derived.LaidEql
import Derived.Stop.Asserts
import Derived.RowKitTokens
set_option linter.unusedVariables false
set_option linter.unusedSimpArgs false
namespace Go.Proofs.YtpdmaenhenfofaaGreatDoor
open Go.RowKit Go.Extern.Stop Go.Stop Go.Extern
theorem FK (t:Addr) (w:World):(ReflectliteValue.unpack (.iface 165 (.pointer (some t)))).run Tryz.prog w
  =.ok (.agg #[.pointer (some ⟨4,165,none⟩),.pointer (some ⟨w.heap.size,0,none⟩),.int .u64 150]) (w.alloc (.cells #[.pointer (some t)] 165)):=by kernel_rfl
theorem Js (a:Addr) (w:World):(ReflectliteValue.methodAny (ReflectliteValue.valueError "reflectlite.Value.Type" 0) (fun t _ _ _=>ReflectliteType.toType t) #[.agg #[.pointer (some ⟨4,165,none⟩),.pointer (some a),.int .u64 150]]).run Tryz.prog w
  =.ok (.iface 268 (.agg #[.pointer (some ⟨4,165,none⟩)])) w:=by kernel_rfl
theorem E4 (h:Value) (w:World):(Go.method 473 268 (.agg #[h]) "Kind").run Tryz.prog w=.ok (239,h) w:=by kernel_rfl
theorem Jt (w:World):((ReflectliteType.abiMethod fun t=>Functor.map (fun a:Nat=>Value.int IntKind.u8 (a:Int)) (Rtype.kind t)) #[.pointer (some ⟨4,165,none⟩)]).run Tryz.prog w=.ok (.int .u8 22) w:=by kernel_rfl
theorem Ju (w:World):((ReflectliteType.abiMethod fun t=>Functor.map (fun a:Nat=>Value.int IntKind.u8 (a:Int)) (Rtype.kind t)) #[.pointer (some ⟨4,26,none⟩)]).run Tryz.prog w=.ok (.int .u8 2) w:=by kernel_rfl
theorem Abu (z:Sem Value) (f:TypeId→Addr→Nat→Nat→Sem Value) (v:Value):
  ReflectliteValue.method z f #[v]=(do match←ReflectliteValue.parts v with|none=>z|some (t,a,fl)=>f t a fl (fl % 32)):=rfl
theorem R5 (a:Addr) (w:World):(ReflectliteValue.parts (.agg #[.pointer (some ⟨4,165,none⟩),.pointer (some a),.int .u64 150])).run Tryz.prog w=.ok (some (165,a,150)) w:=by kernel_rfl
theorem HK (a p:Addr) (W:World) (ha:W.cell? a=some (.pointer (some p))):
  (ReflectliteValue.method (ReflectliteValue.valueError "reflectlite.Value.IsNil" 0) ReflectliteValue.isNil #[.agg #[.pointer (some ⟨4,165,none⟩),.pointer (some a),.int .u64 150]]).run Tryz.prog W=.ok (.bool false) W:=by
 rw[Abu]
 simp only[Sem.run_bind,R5,Result.andThen]
 simp[ReflectliteValue.isNil,loadVar,isAgg,underlying,Tryz.underlying165,ha,Result.andThen]
theorem E5 (h:Value) (w:World):(Go.method 473 268 (.agg #[h]) "Elem").run Tryz.prog w=.ok (282,.agg #[h]) w:=by kernel_rfl
theorem CI (h:Value) (w:World):(Go.method 473 268 (.agg #[h]) "Implements").run Tryz.prog w=.ok (283,.agg #[h]) w:=by kernel_rfl
theorem C6 (h:Value) (w:World):(Go.method 473 268 (.agg #[h]) "AssignableTo").run Tryz.prog w=.ok (280,.agg #[h]) w:=by kernel_rfl
theorem Jv (w:World):(ReflectliteType.method ReflectliteType.elem #[.agg #[.pointer (some ⟨4,165,none⟩)]]).run Tryz.prog w=.ok (.iface 268 (.agg #[.pointer (some ⟨4,26,none⟩)])) w:=by kernel_rfl
theorem Ec (w:World):(ReflectliteType.relation "Implements" ReflectliteType.implements_ #[.agg #[.pointer (some ⟨4,26,none⟩)],.iface 268 (.agg #[.pointer (some ⟨4,93,none⟩)])]).run Tryz.prog w=.ok (.bool true) w:=by kernel_rfl
theorem GK (v:Value) (w:World):(ReflectliteType.typeOf #[.iface 26 v]).run Tryz.prog w=.ok (.iface 268 (.agg #[.pointer (some ⟨4,26,none⟩)])) w:=by kernel_rfl
theorem Ed (w:World):(ReflectliteType.relation "AssignableTo" ReflectliteType.assignableTo #[.agg #[.pointer (some ⟨4,26,none⟩)],.iface 268 (.agg #[.pointer (some ⟨4,26,none⟩)])]).run Tryz.prog w=.ok (.bool true) w:=by kernel_rfl
theorem FL (n:Int) (w:World):(ReflectliteValue.unpack (.iface 26 (.int .i64 n))).run Tryz.prog w
  =.ok (.agg #[.pointer (some ⟨4,26,none⟩),.pointer (some ⟨w.heap.size,0,none⟩),.int .u64 130]) (w.alloc (.cells #[.int .i64 n] 26)):=by kernel_rfl
theorem Wy (w:World):(Rtype.elem? 165).run Tryz.prog w=.ok (some 26) w:=by kernel_rfl
theorem Ain (p:Addr) (w:World):(ReflectliteValue.mk 26 p ReflectliteValue.flagAddr).run Tryz.prog w=.ok (.agg #[.pointer (some ⟨4,26,none⟩),.pointer (some p),.int .u64 386]) w:=by kernel_rfl
theorem HL (a p:Addr) (W:World) (ha:W.cell? a=some (.pointer (some p))):
  (ReflectliteValue.method (ReflectliteValue.valueError "reflectlite.Value.Elem" 0) ReflectliteValue.elem #[.agg #[.pointer (some ⟨4,165,none⟩),.pointer (some a),.int .u64 150]]).run Tryz.prog W
   =.ok (.agg #[.pointer (some ⟨4,26,none⟩),.pointer (some p),.int .u64 386]) W:=by
 rw[Abu]
 simp only[Sem.run_bind,R5,Result.andThen]
 simp[ReflectliteValue.elem,loadVar,isAgg,underlying,Tryz.underlying165,ha,Result.andThen,Wy,Ain]
theorem Aim (v x:Value): ∃s1 s2 s3 s4 s5:String,ReflectliteValue.set #[v,x]=(do
  let (some (dst,a,fl),some (src,b,_)):=(←ReflectliteValue.parts v,←ReflectliteValue.parts x)
   |unsupported (.noEntry s1)
  if fl/ReflectliteValue.flagAddr % 2==0 then unsupported (.noEntry s2)
  let val←loadVar src b
  if←Rtype.directlyAssignable dst src then storeVar dst a val
  else if←Rtype.implements dst src then
   if(←Rtype.kind src)==20 then
    match val with
    |.nilIface=>unsupported (.noEntry s3)
    |_=>storeVar dst a val
   else storeVar dst a (.iface src val)
  else panicString (s4++(←Rtype.spelt src)++s5++(←Rtype.spelt dst))
  pure (.tuple #[])):=⟨_,_,_,_,_,rfl⟩
theorem Wx (a:Addr) (w:World):(ReflectliteValue.parts (.agg #[.pointer (some ⟨4,26,none⟩),.pointer (some a),.int .u64 386])).run Tryz.prog w=.ok (some (26,a,386)) w:=by kernel_rfl
theorem YJ (a:Addr) (w:World):(ReflectliteValue.parts (.agg #[.pointer (some ⟨4,26,none⟩),.pointer (some a),.int .u64 130])).run Tryz.prog w=.ok (some (26,a,130)) w:=by kernel_rfl
theorem Wz (w:World):(Rtype.directlyAssignable 26 26).run Tryz.prog w=.ok true w:=by kernel_rfl
theorem LR (ta b:Addr) (n:Int) (old:Value) (W:World) (hb:W.cell? b=some (.int .i64 n)) (ht:W.cell? ta=some old) (hf:W.frozen? ta=false):
  (ReflectliteValue.set #[.agg #[.pointer (some ⟨4,26,none⟩),.pointer (some ta),.int .u64 386],.agg #[.pointer (some ⟨4,26,none⟩),.pointer (some b),.int .u64 130]]).run Tryz.prog W
   =.ok (.tuple #[]) (W.setCell ta (.int .i64 n)):=by
 obtain⟨s1,s2,s3,s4,s5,hs⟩:=Aim (.agg #[.pointer (some ⟨4,26,none⟩),.pointer (some ta),.int .u64 386]) (.agg #[.pointer (some ⟨4,26,none⟩),.pointer (some b),.int .u64 130])
 rw[hs]
 simp only[Sem.run_bind,Wx,YJ,Result.andThen]
 simp[ReflectliteValue.flagAddr,loadVar,isAgg,underlying,Tryz.underlying26,hb,Result.andThen,Wz,storeVar,Value.cells,storeCells,Addr.add]
 rw[run_store Tryz.prog W ta _ _ (by rfl)]
 simp[ht,hf]
theorem OT (v:Value) (w:World):(ReflectliteType.typeOf #[.iface 205 v]).run Tryz.prog w=.ok (.iface 268 (.agg #[.pointer (some ⟨4,205,none⟩)])) w:=by kernel_rfl
theorem KA (w:World):(ReflectliteType.relation "AssignableTo" ReflectliteType.assignableTo #[.agg #[.pointer (some ⟨4,205,none⟩)],.iface 268 (.agg #[.pointer (some ⟨4,26,none⟩)])]).run Tryz.prog w=.ok (.bool false) w:=by kernel_rfl
theorem S8 (v:Value) (xT:TypeId) (w:World):(Instr.typeAssert (.iface 205 v) xT 287 true).run Tryz.prog w=.ok (.tuple #[.nilIface,.bool false]) w:=run_typeAssert_lacksB Tryz.underlying287 (by kernel_rfl) (by kernel_rfl) v xT w
theorem LU (v:Value) (xT:TypeId) (w:World):(Instr.typeAssert (.iface 205 v) xT 273 true).run Tryz.prog w=.ok (.tuple #[.iface 205 v,.bool true]) w:=run_typeAssert_hasB Tryz.underlying273 (by kernel_rfl) v xT w
theorem OU (v:Value) (w:World):(Go.method 473 205 v "Unwrap").run Tryz.prog w=.ok (272,v) w:=by kernel_rfl
set_option maxRecDepth 100000 in
set_option maxHeartbeats 4000000 in
theorem Ae8 (pb po:Nat) (t:Addr) (n:Int) (old:Value) (w:World) (hg:w.cell? ⟨0,0,none⟩=some (.iface 268 (.agg #[.pointer (some ⟨4,93,none⟩)]))) (he:w.cell? ⟨pb,po+1,none⟩=some (.int .i64 n)) (ht0:w.cell? t=some old) (hf0:w.frozen? t=false):
  Calls Tryz.prog 75 #[.iface 205 (.pointer (some ⟨pb,po,none⟩)),.iface 165 (.pointer (some t))] w fun ev w'=>ev=.returned (.bool true)∧w'=((((w.alloc (.cells #[.pointer (some t)] 165)).alloc (.cells #[.pointer (some ⟨4,165,none⟩),.pointer (some ⟨w.heap.size,0,none⟩),.int .u64 150] 238)).alloc (.cells #[.pointer (some ⟨4,165,none⟩),.pointer (some ⟨w.heap.size,0,none⟩),.int .u64 150] 238)).alloc (.cells #[.int .i64 n] 26)).setCell t (.int .i64 n):=by
 have h6:= @run_callFunc_extern Tryz.prog 130 _ (fun args=>ReflectliteValue.unpack (args.getD 0 (.tuple #[]))) Tryz.func130 (by kernel_rfl) (by kernel_rfl) (by kernel_rfl) (by kernel_rfl)
 have h7:= @run_callFunc_extern Tryz.prog 131 _ (ReflectliteValue.methodAny (ReflectliteValue.valueError "reflectlite.Value.Type" 0) (fun t _ _ _=>ReflectliteType.toType t)) Tryz.func131 (by kernel_rfl) (by kernel_rfl) (by kernel_rfl) (by kernel_rfl)
 have h8:= @run_callFunc_extern Tryz.prog 132 _ (ReflectliteValue.method (ReflectliteValue.valueError "reflectlite.Value.IsNil" 0) ReflectliteValue.isNil) Tryz.func132 (by kernel_rfl) (by kernel_rfl) (by kernel_rfl) (by kernel_rfl)
 have h27:= @run_callFunc_extern Tryz.prog 239 _ (ReflectliteType.abiMethod fun t=>do pure (.int .u8 (←Rtype.kind t))) Tryz.func239 (by kernel_rfl) (by kernel_rfl) (by kernel_rfl) (by kernel_rfl)
 have h37:= @run_callFunc_extern Tryz.prog 282 _ (ReflectliteType.method ReflectliteType.elem) Tryz.func282 (by kernel_rfl) (by kernel_rfl) (by kernel_rfl) (by kernel_rfl)
 have h38:= @run_callFunc_extern Tryz.prog 283 _ (ReflectliteType.relation "Implements" ReflectliteType.implements_) Tryz.func283 (by kernel_rfl) (by kernel_rfl) (by kernel_rfl) (by kernel_rfl)
 have h10:= @run_callFunc_extern Tryz.prog 113 _ ReflectliteType.typeOf Tryz.func113 (by kernel_rfl) (by kernel_rfl) (by kernel_rfl) (by kernel_rfl)
 have h35:= @run_callFunc_extern Tryz.prog 280 _ (ReflectliteType.relation "AssignableTo" ReflectliteType.assignableTo) Tryz.func280 (by kernel_rfl) (by kernel_rfl) (by kernel_rfl) (by kernel_rfl)
 have h11:= @run_callFunc_extern Tryz.prog 179 _ (ReflectliteValue.method (ReflectliteValue.valueError "reflectlite.Value.Elem" 0) ReflectliteValue.elem) Tryz.func179 (by kernel_rfl) (by kernel_rfl) (by kernel_rfl) (by kernel_rfl)
 have h12:= @run_callFunc_extern Tryz.prog 180 _ ReflectliteValue.set Tryz.func180 (by kernel_rfl) (by kernel_rfl) (by kernel_rfl) (by kernel_rfl)
 have mK:=E4
 have mE:=E5
 have mI:=CI
 have mA:=C6
 have f6:=FK
 have f7:=Js
 have k27:=Jt
 have k25:=Ju
 have e27:=Jv
 have i25:=Ec
 have tO:=GK
 have a25:=Ed
 have v25:=FL
 have tF:=OT
 have aF:=KA
 have nA:=S8
 have hU:=LU
 have mU:=OU
 have hlt:0<w.heap.size:=World.block_lt_of_cell? _ _ hg
 have htl:t.block<w.heap.size:=World.block_lt_of_cell? _ _ ht0
 have hpl:pb<w.heap.size:=World.block_lt_of_cell? _ _ he
 have n8:=HK ⟨w.heap.size,0,none⟩ t ((w.alloc (.cells #[.pointer (some t)] 165)).alloc (.cells #[.pointer (some ⟨4,165,none⟩),.pointer (some ⟨w.heap.size,0,none⟩),.int .u64 150] 238)) (by simp)
 have hg2:((w.alloc (.cells #[.pointer (some t)] 165)).alloc (.cells #[.pointer (some ⟨4,165,none⟩),.pointer (some ⟨w.heap.size,0,none⟩),.int .u64 150] 238)).cell? ⟨0,0,none⟩=some (.iface 268 (.agg #[.pointer (some ⟨4,93,none⟩)])):=by
  rw[World.cell?_alloc_lt _ _ ⟨0,0,none⟩ (by simp),World.cell?_alloc_lt _ _ ⟨0,0,none⟩ hlt];exact hg
 have he3:(((w.alloc (.cells #[.pointer (some t)] 165)).alloc (.cells #[.pointer (some ⟨4,165,none⟩),.pointer (some ⟨w.heap.size,0,none⟩),.int .u64 150] 238)).alloc (.cells #[.pointer (some ⟨4,165,none⟩),.pointer (some ⟨w.heap.size,0,none⟩),.int .u64 150] 238)).cell? ⟨pb,po+1,none⟩=some (.int .i64 n):=by
  rw[World.cell?_alloc_lt _ _ ⟨pb,po+1,none⟩ (by simp;omega),World.cell?_alloc_lt _ _ ⟨pb,po+1,none⟩ (by simp;omega),World.cell?_alloc_lt _ _ ⟨pb,po+1,none⟩ hpl];exact he
 have el:=HL ⟨w.heap.size,0,none⟩ t (((w.alloc (.cells #[.pointer (some t)] 165)).alloc (.cells #[.pointer (some ⟨4,165,none⟩),.pointer (some ⟨w.heap.size,0,none⟩),.int .u64 150] 238)).alloc (.cells #[.pointer (some ⟨4,165,none⟩),.pointer (some ⟨w.heap.size,0,none⟩),.int .u64 150] 238)) (by rw[World.cell?_alloc_lt _ _ ⟨w.heap.size,0,none⟩ (by simp;omega)];simp)
 have st:=LR t ⟨w.heap.size+1+1+1,0,none⟩ n old ((((w.alloc (.cells #[.pointer (some t)] 165)).alloc (.cells #[.pointer (some ⟨4,165,none⟩),.pointer (some ⟨w.heap.size,0,none⟩),.int .u64 150] 238)).alloc (.cells #[.pointer (some ⟨4,165,none⟩),.pointer (some ⟨w.heap.size,0,none⟩),.int .u64 150] 238)).alloc (.cells #[.int .i64 n] 26))
  (by rw[World.cell?_alloc_at _ _ _ _ (by simp)];rfl)
  (by rw[World.cell?_alloc_lt _ _ t (by simp;omega),World.cell?_alloc_lt _ _ t (by simp;omega),World.cell?_alloc_lt _ _ t (by simp;omega),World.cell?_alloc_lt _ _ t htl];exact ht0)
  (by rw[World.frozen?_alloc_old _ _ t (by simp;omega),World.frozen?_alloc_old _ _ t (by simp;omega),World.frozen?_alloc_old _ _ t (by simp;omega),World.frozen?_alloc_old _ _ t (Nat.ne_of_lt htl)];exact hf0)
 go_enter Tryz.func75,Tryz.ntmps75
 go_wp2
 refine wp_loop_rounds 2 ?_
 rw[rounds_succ]
 go_wp2
 rw[rounds_succ]
 go_wp2
 go_ret
 exact⟨rfl,rfl⟩
end Go.Proofs.YtpdmaenhenfofaaGreatDoor
