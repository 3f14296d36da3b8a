/- Contracts and laws, joined: Ea, Ec, El, Eo, Ed, Ef, Et, Eu, Eg. No condition beside those that each theorem names. -/
import Derived.Test.YtmohpcgmdheafaaGreatDoorProg
import Derived.WalkKit
import Derived.LaidEql
import Derived.Stop.Asserts
import Derived.RowKitTokens
import Derived.Lib.IfaceEq
set_option linter.unusedVariables false
set_option linter.unusedSimpArgs false
namespace Go.Proofs.YtmohpcgmdheafaaGreatDoor
open Go.RowKit Go.Extern.Stop Go.Stop Go.Extern
theorem X8 (t:Addr) (w:World):(ReflectliteValue.unpack (.iface 116 (.pointer (some t)))).run Tryz.prog w
  =.ok (.agg #[.pointer (some ⟨4,116,none⟩),.pointer (some ⟨w.heap.size,0,none⟩),.int .u64 150]) (w.alloc (.cells #[.pointer (some t)] 116)):=by kernel_rfl
theorem Ai1 (a:Addr) (w:World):(ReflectliteValue.methodAny (ReflectliteValue.valueError "reflectlite.Value.Type" 0) (fun t _ _ _=>ReflectliteType.toType t) #[.agg #[.pointer (some ⟨4,116,none⟩),.pointer (some a),.int .u64 150]]).run Tryz.prog w
  =.ok (.iface 255 (.agg #[.pointer (some ⟨4,116,none⟩)])) w:=by kernel_rfl
theorem SD (h:Value) (w:World):(Go.method 603 255 (.agg #[h]) "Kind").run Tryz.prog w=.ok (394,h) w:=by kernel_rfl
theorem Ai3 (w:World):((ReflectliteType.abiMethod fun t=>Functor.map (fun a:Nat=>Value.int IntKind.u8 (a:Int)) (Rtype.kind t)) #[.pointer (some ⟨4,116,none⟩)]).run Tryz.prog w=.ok (.int .u8 22) w:=by kernel_rfl
theorem Ai4 (w:World):((ReflectliteType.abiMethod fun t=>Functor.map (fun a:Nat=>Value.int IntKind.u8 (a:Int)) (Rtype.kind t)) #[.pointer (some ⟨4,45,none⟩)]).run Tryz.prog w=.ok (.int .u8 2) w:=by kernel_rfl
theorem Ai2 (z:Sem Value) (f:TypeId->Addr->Nat->Nat->Sem Value) (v:Value):
  ReflectliteValue.method z f #[v]=(do match<-ReflectliteValue.parts v with|none=>z|some (t,a,fl)=>f t a fl (fl % 32)):=rfl
theorem TZ (a:Addr) (w:World):(ReflectliteValue.parts (.agg #[.pointer (some ⟨4,116,none⟩),.pointer (some a),.int .u64 150])).run Tryz.prog w=.ok (some (116,a,150)) w:=by kernel_rfl
theorem Ael (a p:Addr) (W:World) (ha:W.cell? a=some (.pointer (some p))):
  (ReflectliteValue.method (ReflectliteValue.valueError "reflectlite.Value.IsNil" 0) ReflectliteValue.isNil #[.agg #[.pointer (some ⟨4,116,none⟩),.pointer (some a),.int .u64 150]]).run Tryz.prog W=.ok (.bool false) W:=by
 rw[Ai2]
 simp only[Sem.run_bind,TZ,Result.andThen]
 simp[ReflectliteValue.isNil,loadVar,isAgg,underlying,Tryz.underlying116,ha,Result.andThen]
theorem SE (h:Value) (w:World):(Go.method 603 255 (.agg #[h]) "Elem").run Tryz.prog w=.ok (439,.agg #[h]) w:=by kernel_rfl
theorem L1 (h:Value) (w:World):(Go.method 603 255 (.agg #[h]) "Implements").run Tryz.prog w=.ok (440,.agg #[h]) w:=by kernel_rfl
theorem JE (h:Value) (w:World):(Go.method 603 255 (.agg #[h]) "AssignableTo").run Tryz.prog w=.ok (437,.agg #[h]) w:=by kernel_rfl
theorem Ai5 (w:World):(ReflectliteType.method ReflectliteType.elem #[.agg #[.pointer (some ⟨4,116,none⟩)]]).run Tryz.prog w=.ok (.iface 255 (.agg #[.pointer (some ⟨4,45,none⟩)])) w:=by kernel_rfl
theorem Sa (w:World):(ReflectliteType.relation "Implements" ReflectliteType.implements_ #[.agg #[.pointer (some ⟨4,45,none⟩)],.iface 255 (.agg #[.pointer (some ⟨4,69,none⟩)])]).run Tryz.prog w=.ok (.bool true) w:=by kernel_rfl
theorem Z6 (v:Value) (w:World):(ReflectliteType.typeOf #[.iface 45 v]).run Tryz.prog w=.ok (.iface 255 (.agg #[.pointer (some ⟨4,45,none⟩)])) w:=by kernel_rfl
theorem Sb (w:World):(ReflectliteType.relation "AssignableTo" ReflectliteType.assignableTo #[.agg #[.pointer (some ⟨4,45,none⟩)],.iface 255 (.agg #[.pointer (some ⟨4,45,none⟩)])]).run Tryz.prog w=.ok (.bool true) w:=by kernel_rfl
theorem X9 (n:Int) (w:World):(ReflectliteValue.unpack (.iface 45 (.int .i64 n))).run Tryz.prog w
  =.ok (.agg #[.pointer (some ⟨4,45,none⟩),.pointer (some ⟨w.heap.size,0,none⟩),.int .u64 130]) (w.alloc (.cells #[.int .i64 n] 45)):=by kernel_rfl
theorem Z8 (w:World):(Rtype.elem? 116).run Tryz.prog w=.ok (some 45) w:=by kernel_rfl
theorem Ata (p:Addr) (w:World):(ReflectliteValue.mk 45 p ReflectliteValue.flagAddr).run Tryz.prog w=.ok (.agg #[.pointer (some ⟨4,45,none⟩),.pointer (some p),.int .u64 386]) w:=by kernel_rfl
theorem Aem (a p:Addr) (W:World) (ha:W.cell? a=some (.pointer (some p))):
  (ReflectliteValue.method (ReflectliteValue.valueError "reflectlite.Value.Elem" 0) ReflectliteValue.elem #[.agg #[.pointer (some ⟨4,116,none⟩),.pointer (some a),.int .u64 150]]).run Tryz.prog W
   =.ok (.agg #[.pointer (some ⟨4,45,none⟩),.pointer (some p),.int .u64 386]) W:=by
 rw[Ai2]
 simp only[Sem.run_bind,TZ,Result.andThen]
 simp[ReflectliteValue.elem,loadVar,isAgg,underlying,Tryz.underlying116,ha,Result.andThen,Z8,Ata]
theorem As9 (v x:Value): ∃s1 s2 s3 s4 s5:String,ReflectliteValue.set #[v,x]=(do
  let (some (dst,a,fl),some (src,b,_)):=(<-ReflectliteValue.parts v,<-ReflectliteValue.parts x)
   |unsupported (.noEntry s1)
  if fl/ReflectliteValue.flagAddr % 2==0 then unsupported (.noEntry s2)
  let val<-loadVar src b
  if<-Rtype.directlyAssignable dst src then storeVar dst a val
  else if<-Rtype.implements dst src then
   if(<-Rtype.kind src)==20 then
    match val with
    |.nilIface=>unsupported (.noEntry s3)
    |_=>storeVar dst a val
   else storeVar dst a (.iface src val)
  else panicString (s4++(<-Rtype.spelt src)++s5++(<-Rtype.spelt dst))
  pure (.tuple #[])):=⟨_,_,_,_,_,rfl⟩
theorem Z7 (a:Addr) (w:World):(ReflectliteValue.parts (.agg #[.pointer (some ⟨4,45,none⟩),.pointer (some a),.int .u64 386])).run Tryz.prog w=.ok (some (45,a,386)) w:=by kernel_rfl
theorem Aek (a:Addr) (w:World):(ReflectliteValue.parts (.agg #[.pointer (some ⟨4,45,none⟩),.pointer (some a),.int .u64 130])).run Tryz.prog w=.ok (some (45,a,130)) w:=by kernel_rfl
theorem Z9 (w:World):(Rtype.directlyAssignable 45 45).run Tryz.prog w=.ok true w:=by kernel_rfl
theorem Amv (ta b:Addr) (n:Int) (old:Value) (W:World) (hb:W.cell? b=some (.int .i64 n)) (ht:W.cell? ta=some old) (hf:W.frozen? ta=false):
  (ReflectliteValue.set #[.agg #[.pointer (some ⟨4,45,none⟩),.pointer (some ta),.int .u64 386],.agg #[.pointer (some ⟨4,45,none⟩),.pointer (some b),.int .u64 130]]).run Tryz.prog W
   =.ok (.tuple #[]) (W.setCell ta (.int .i64 n)):=by
 obtain⟨s1,s2,s3,s4,s5,hs⟩:=As9 (.agg #[.pointer (some ⟨4,45,none⟩),.pointer (some ta),.int .u64 386]) (.agg #[.pointer (some ⟨4,45,none⟩),.pointer (some b),.int .u64 130])
 rw[hs]
 simp only[Sem.run_bind,Z7,Aek,Result.andThen]
 simp[ReflectliteValue.flagAddr,loadVar,isAgg,underlying,Tryz.underlying45,hb,Result.andThen,Z9,storeVar,Value.cells,storeCells,Addr.add]
 rw[run_store Tryz.prog W ta _ _ (by rfl)]
 simp[ht,hf]
structure EaF (ft uf:Nat):Prop where
 t: ∀v w,(ReflectliteType.typeOf #[.iface ft v]).run Tryz.prog w=.ok (.iface 255 (.agg #[.pointer (some ⟨4,ft,none⟩)])) w
 a: ∀w,(ReflectliteType.relation "AssignableTo" ReflectliteType.assignableTo #[.agg #[.pointer (some ⟨4,ft,none⟩)],.iface 255 (.agg #[.pointer (some ⟨4,45,none⟩)])]).run Tryz.prog w=.ok (.bool false) w
 n: ∀v xT w,(Instr.typeAssert (.iface ft v) xT 267 true).run Tryz.prog w=.ok (.tuple #[.nilIface,.bool false]) w
 h: ∀v xT w,(Instr.typeAssert (.iface ft v) xT 260 true).run Tryz.prog w=.ok (.tuple #[.iface ft v,.bool true]) w
 m: ∀v w,(Go.method 603 ft v "Unwrap").run Tryz.prog w=.ok (uf,v) w
 c: ∀x w,(callFunc uf x).run Tryz.prog w=.ok (.enter uf x) w
def EaU (uf off:Nat) (N:Int->Value):Prop:= ∀(pb po:Nat) (n:Int) (w:World),w.cell? ⟨pb,po+off,none⟩=some (N n)->Calls Tryz.prog uf #[.pointer (some ⟨pb,po,none⟩)] w fun e w'=>e=.returned (.iface 45 (.int .i64 n))/\w'=w
def EaT (ft off:Nat) (N:Int->Value):Prop:= ∀(pb po:Nat) (t:Addr) (n:Int) (old:Value) (w:World) (hg:w.cell? ⟨0,0,none⟩=some (.iface 255 (.agg #[.pointer (some ⟨4,69,none⟩)]))) (he:w.cell? ⟨pb,po+off,none⟩=some (N n)) (ht0:w.cell? t=some old) (hf0:w.frozen? t=false),
  Calls Tryz.prog 42 #[.iface ft (.pointer (some ⟨pb,po,none⟩)),.iface 116 (.pointer (some t))] w fun ev w'=>ev=.returned (.bool true)/\w'=((((w.alloc (.cells #[.pointer (some t)] 116)).alloc (.cells #[.pointer (some ⟨4,116,none⟩),.pointer (some ⟨w.heap.size,0,none⟩),.int .u64 150] 167)).alloc (.cells #[.pointer (some ⟨4,116,none⟩),.pointer (some ⟨w.heap.size,0,none⟩),.int .u64 150] 167)).alloc (.cells #[.int .i64 n] 45)).setCell t (.int .i64 n)
set_option maxRecDepth 100000 in
set_option maxHeartbeats 4000000 in
theorem asG {ft uf off:Nat} {N:Int->Value} (F:EaF ft uf) (U:EaU uf off N):EaT ft off N:=by
 intro pb po t n old w hg he ht0 hf0
 have h6:= @run_callFunc_extern Tryz.prog 85 _ (fun args=>ReflectliteValue.unpack (args.getD 0 (.tuple #[]))) Tryz.func85 (by kernel_rfl) (by kernel_rfl) (by kernel_rfl) (by kernel_rfl)
 have h7:= @run_callFunc_extern Tryz.prog 86 _ (ReflectliteValue.methodAny (ReflectliteValue.valueError "reflectlite.Value.Type" 0) (fun t _ _ _=>ReflectliteType.toType t)) Tryz.func86 (by kernel_rfl) (by kernel_rfl) (by kernel_rfl) (by kernel_rfl)
 have h8:= @run_callFunc_extern Tryz.prog 87 _ (ReflectliteValue.method (ReflectliteValue.valueError "reflectlite.Value.IsNil" 0) ReflectliteValue.isNil) Tryz.func87 (by kernel_rfl) (by kernel_rfl) (by kernel_rfl) (by kernel_rfl)
 have h27:= @run_callFunc_extern Tryz.prog 394 _ (ReflectliteType.abiMethod fun t=>do pure (.int .u8 (<-Rtype.kind t))) Tryz.func394 (by kernel_rfl) (by kernel_rfl) (by kernel_rfl) (by kernel_rfl)
 have h37:= @run_callFunc_extern Tryz.prog 439 _ (ReflectliteType.method ReflectliteType.elem) Tryz.func439 (by kernel_rfl) (by kernel_rfl) (by kernel_rfl) (by kernel_rfl)
 have h38:= @run_callFunc_extern Tryz.prog 440 _ (ReflectliteType.relation "Implements" ReflectliteType.implements_) Tryz.func440 (by kernel_rfl) (by kernel_rfl) (by kernel_rfl) (by kernel_rfl)
 have h10:= @run_callFunc_extern Tryz.prog 83 _ ReflectliteType.typeOf Tryz.func83 (by kernel_rfl) (by kernel_rfl) (by kernel_rfl) (by kernel_rfl)
 have h35:= @run_callFunc_extern Tryz.prog 437 _ (ReflectliteType.relation "AssignableTo" ReflectliteType.assignableTo) Tryz.func437 (by kernel_rfl) (by kernel_rfl) (by kernel_rfl) (by kernel_rfl)
 have h11:= @run_callFunc_extern Tryz.prog 154 _ (ReflectliteValue.method (ReflectliteValue.valueError "reflectlite.Value.Elem" 0) ReflectliteValue.elem) Tryz.func154 (by kernel_rfl) (by kernel_rfl) (by kernel_rfl) (by kernel_rfl)
 have h12:= @run_callFunc_extern Tryz.prog 155 _ ReflectliteValue.set Tryz.func155 (by kernel_rfl) (by kernel_rfl) (by kernel_rfl) (by kernel_rfl)
 have mK:=SD
 have mE:=SE
 have mI:=L1
 have mA:=JE
 have f6:=X8
 have f7:=Ai1
 have k27:=Ai3
 have k25:=Ai4
 have e27:=Ai5
 have i25:=Sa
 have tO:=Z6
 have a25:=Sb
 have v25:=X9
 have tF:=F.t
 have aF:=F.a
 have nA:=F.n
 have hU:=F.h
 have mU:=F.m
 have cF:=F.c
 have hlt:0<w.heap.size:=World.block_lt_of_cell? _ _ hg
 have htl:t.block<w.heap.size:=World.block_lt_of_cell? _ _ ht0
 have hpl:pb<w.heap.size:=World.block_lt_of_cell? _ _ he
 have n8:=Ael ⟨w.heap.size,0,none⟩ t ((w.alloc (.cells #[.pointer (some t)] 116)).alloc (.cells #[.pointer (some ⟨4,116,none⟩),.pointer (some ⟨w.heap.size,0,none⟩),.int .u64 150] 167)) (by simp)
 have hg2:((w.alloc (.cells #[.pointer (some t)] 116)).alloc (.cells #[.pointer (some ⟨4,116,none⟩),.pointer (some ⟨w.heap.size,0,none⟩),.int .u64 150] 167)).cell? ⟨0,0,none⟩=some (.iface 255 (.agg #[.pointer (some ⟨4,69,none⟩)])):=by
  rw[World.cell?_alloc_lt _ _ ⟨0,0,none⟩ (by simp),World.cell?_alloc_lt _ _ ⟨0,0,none⟩ hlt];exact hg
 have he3:(((w.alloc (.cells #[.pointer (some t)] 116)).alloc (.cells #[.pointer (some ⟨4,116,none⟩),.pointer (some ⟨w.heap.size,0,none⟩),.int .u64 150] 167)).alloc (.cells #[.pointer (some ⟨4,116,none⟩),.pointer (some ⟨w.heap.size,0,none⟩),.int .u64 150] 167)).cell? ⟨pb,po+off,none⟩=some (N n):=by
  rw[World.cell?_alloc_lt _ _ ⟨pb,po+off,none⟩ (by simp;omega),World.cell?_alloc_lt _ _ ⟨pb,po+off,none⟩ (by simp;omega),World.cell?_alloc_lt _ _ ⟨pb,po+off,none⟩ hpl];exact he
 have u3:=U pb po n _ he3
 have el:=Aem ⟨w.heap.size,0,none⟩ t (((w.alloc (.cells #[.pointer (some t)] 116)).alloc (.cells #[.pointer (some ⟨4,116,none⟩),.pointer (some ⟨w.heap.size,0,none⟩),.int .u64 150] 167)).alloc (.cells #[.pointer (some ⟨4,116,none⟩),.pointer (some ⟨w.heap.size,0,none⟩),.int .u64 150] 167)) (by rw[World.cell?_alloc_lt _ _ ⟨w.heap.size,0,none⟩ (by simp;omega)];simp)
 have st:=Amv t ⟨w.heap.size+1+1+1,0,none⟩ n old ((((w.alloc (.cells #[.pointer (some t)] 116)).alloc (.cells #[.pointer (some ⟨4,116,none⟩),.pointer (some ⟨w.heap.size,0,none⟩),.int .u64 150] 167)).alloc (.cells #[.pointer (some ⟨4,116,none⟩),.pointer (some ⟨w.heap.size,0,none⟩),.int .u64 150] 167)).alloc (.cells #[.int .i64 n] 45))
  (by rw[World.cell?_alloc_at _ _ _ _ (by simp)];rfl)
  (by rw[World.cell?_alloc_lt _ _ t (by simp;omega),World.cell?_alloc_lt _ _ t (by simp;omega),World.cell?_alloc_lt _ _ t (by simp;omega),World.cell?_alloc_lt _ _ t htl];exact ht0)
  (by rw[World.frozen?_alloc_old _ _ t (by simp;omega),World.frozen?_alloc_old _ _ t (by simp;omega),World.frozen?_alloc_old _ _ t (by simp;omega),World.frozen?_alloc_old _ _ t (Nat.ne_of_lt htl)];exact hf0)
 go_enter Tryz.func42,Tryz.ntmps42
 go_wp2
 refine wp_loop_rounds 2 ?_
 rw[rounds_succ]
 go_wp2_with (with_reducible (refine u3.mono ?_);rintro e w' ⟨rfl,rfl⟩)
 rw[rounds_succ]
 go_wp2
 go_ret
 exact⟨rfl,rfl⟩
theorem Ani:EaT 426 1 (fun n=>.int .i64 n):=asG (uf:=462) ⟨fun _ _=>by kernel_rfl,fun _=>by kernel_rfl,run_typeAssert_lacksB Tryz.underlying267 (by kernel_rfl) (by kernel_rfl),run_typeAssert_hasB Tryz.underlying260 (by kernel_rfl),fun _ _=>by kernel_rfl,fun _ _=>by kernel_rfl⟩ (by
 intro pb po n w hc
 go_enter Tryz.func462,Tryz.ntmps462
 go_wp2
 go_ret
 exact⟨rfl,rfl⟩)
theorem Aeh (v:Value) (w:World):(Extern.ReflectliteType.typeOf #[.iface 45 v]).run Tryz.prog w=.ok (.iface 255 (.agg #[.pointer (some ⟨4,45,none⟩)])) w:=by kernel_rfl
theorem SC (w:World):((Extern.ReflectliteType.method fun t=>do Rtype.noPackHeld "Comparable" t;Functor.map (fun a=>Value.bool a.comparable) (typeInfo t)) #[.agg #[.pointer (some ⟨4,45,none⟩)]]).run Tryz.prog w=.ok (.bool true) w:=by kernel_rfl
theorem L0 (v:Value) (w:World):(Go.method 603 255 v "Comparable").run Tryz.prog w=.ok (438,v) w:=by kernel_rfl
theorem Abs:(Tryz.prog.info? 45).map (·.comparable)=some true:=by kernel_rfl
theorem Aml (v:Value) (xT:TypeId) (w:World):(Instr.typeAssert (.iface 45 v) xT 257 true).run Tryz.prog w=.ok (.tuple #[.nilIface,.bool false]) w:=run_typeAssert_lacksB Tryz.underlying257 (by kernel_rfl) (by kernel_rfl) v xT w
theorem X7 (v:Value) (xT:TypeId) (w:World):(Instr.typeAssert (.iface 45 v) xT 260 true).run Tryz.prog w=.ok (.tuple #[.nilIface,.bool false]) w:=run_typeAssert_lacksB Tryz.underlying260 (by kernel_rfl) (by kernel_rfl) v xT w
theorem Vx (v:Value) (xT:TypeId) (w:World):(Instr.typeAssert (.iface 45 v) xT 262 true).run Tryz.prog w=.ok (.tuple #[.nilIface,.bool false]) w:=run_typeAssert_lacksB Tryz.underlying262 (by kernel_rfl) (by kernel_rfl) v xT w
theorem Ast (k:Int) (w:World):Calls Tryz.prog 41 #[.nilIface,.iface 45 (.int .i64 k)] w fun e w'=>e=.returned (.bool false)/\w'=w:=by
 have hn:=run_eql_iface_nil_left (P:=Tryz.prog) w 45 (.int .i64 k) Tryz.underlying69
 go_enter Tryz.func41,Tryz.ntmps41
 go_wp2
 go_ret
 exact⟨rfl,rfl⟩
structure EcF (ft uf:Nat):Prop where
 n: ∀v xT w,(Instr.typeAssert (.iface ft v) xT 257 true).run Tryz.prog w=.ok (.tuple #[.nilIface,.bool false]) w
 h: ∀v xT w,(Instr.typeAssert (.iface ft v) xT 260 true).run Tryz.prog w=.ok (.tuple #[.iface ft v,.bool true]) w
 m: ∀v w,(Go.method 603 ft v "Unwrap").run Tryz.prog w=.ok (uf,v) w
 c: ∀x w,(callFunc uf x).run Tryz.prog w=.ok (.enter uf x) w
 e:ft≠45
def EcU (uf off:Nat) (N:Int->Value):Prop:= ∀(pb po:Nat) (n:Int) (w:World),w.cell? ⟨pb,po+off,none⟩=some (N n)->Calls Tryz.prog uf #[.pointer (some ⟨pb,po,none⟩)] w fun e w'=>e=.returned (.iface 45 (.int .i64 n))/\w'=w
def EcT (ft off:Nat) (N:Int->Value):Prop:= ∀(pb po:Nat) (n k:Int) (w:World),w.cell? ⟨pb,po+off,none⟩=some (N n)->
  Calls Tryz.prog 41 #[.iface ft (.pointer (some ⟨pb,po,none⟩)),.iface 45 (.int .i64 k)] w fun ev w'=>ev=.returned (.bool (decide (n=k)))/\w'=w
set_option maxRecDepth 100000 in
set_option maxHeartbeats 4000000 in
theorem isG {ft uf off:Nat} {N:Int->Value} (F:EcF ft uf) (U:EcU uf off N):EcT ft off N:=by
 intro pb po n k w he
 have u3:=U pb po n w he
 have h8:= @run_callFunc_extern Tryz.prog 83 _ Extern.ReflectliteType.typeOf Tryz.func83 (by kernel_rfl) (by kernel_rfl) (by kernel_rfl) (by kernel_rfl)
 have h32:= @run_callFunc_extern Tryz.prog 438 _ (Extern.ReflectliteType.method fun t=>do Rtype.noPackHeld "Comparable" t;pure (.bool (<-typeInfo t).comparable)) Tryz.func438 (by kernel_rfl) (by kernel_rfl) (by kernel_rfl) (by kernel_rfl)
 have tT:=Aeh
 have cT:=SC
 have mR:=L0
 have nE:=Aml
 have uE:=X7
 have vE:=Vx
 have nW:=F.n
 have uW:=F.h
 have mU:=F.m
 have cF:=F.c
 have hty:=run_eql_iface_types (P:=Tryz.prog) ft 45 (.pointer (some ⟨pb,po,none⟩)) (.int .i64 k) Tryz.underlying69 F.e w
 by_cases hnk:n=k
 ·subst hnk
  have heq:(binOp .eql 69 (.iface 45 (.int .i64 n)) (.iface 45 (.int .i64 n))).run Tryz.prog w=.ok (.bool true) w:=by
   rw[Go.Lib.run_eql_iface_int (P:=Tryz.prog) w n n Tryz.underlying69 Abs Tryz.underlying45];simp
  simp only[decide_true]
  go_enter Tryz.func41,Tryz.ntmps41
  go_wp2
  refine wp_loop_rounds 2 ?_
  rw[rounds_succ]
  go_wp2_with (with_reducible (refine u3.mono ?_);rintro e w' ⟨rfl,rfl⟩)
  rw[rounds_succ]
  go_wp2
  go_ret
  exact⟨rfl,rfl⟩
 ·have heq:(binOp .eql 69 (.iface 45 (.int .i64 n)) (.iface 45 (.int .i64 k))).run Tryz.prog w=.ok (.bool false) w:=by
   rw[Go.Lib.run_eql_iface_int (P:=Tryz.prog) w n k Tryz.underlying69 Abs Tryz.underlying45];simp[hnk]
  simp only[hnk,decide_false]
  go_enter Tryz.func41,Tryz.ntmps41
  go_wp2
  refine wp_loop_rounds 2 ?_
  rw[rounds_succ]
  go_wp2_with (with_reducible (refine u3.mono ?_);rintro e w' ⟨rfl,rfl⟩)
  rw[rounds_succ]
  go_wp2
  go_ret
  exact⟨rfl,rfl⟩
theorem Ah9:EcT 231 1 (fun n=>.int .i64 n):=isG (uf:=410) ⟨run_typeAssert_lacksB Tryz.underlying257 (by kernel_rfl) (by kernel_rfl),run_typeAssert_hasB Tryz.underlying260 (by kernel_rfl),fun _ _=>by kernel_rfl,fun _ _=>by kernel_rfl,by decide⟩ (by
 intro pb po n w hc
 go_enter Tryz.func410,Tryz.ntmps410
 go_wp2
 go_ret
 exact⟨rfl,rfl⟩)
theorem Aj0:EaT 96 1 (fun n=>.int .i64 n):=asG (uf:=399) ⟨fun _ _=>by kernel_rfl,fun _=>by kernel_rfl,run_typeAssert_lacksB Tryz.underlying267 (by kernel_rfl) (by kernel_rfl),run_typeAssert_hasB Tryz.underlying260 (by kernel_rfl),fun _ _=>by kernel_rfl,fun _ _=>by kernel_rfl⟩ (by
 intro pb po n w hc
 go_enter Tryz.func399,Tryz.ntmps399
 go_wp2
 go_ret
 exact⟨rfl,rfl⟩)
theorem Ah6:EcT 96 1 (fun n=>.int .i64 n):=isG (uf:=399) ⟨run_typeAssert_lacksB Tryz.underlying257 (by kernel_rfl) (by kernel_rfl),run_typeAssert_hasB Tryz.underlying260 (by kernel_rfl),fun _ _=>by kernel_rfl,fun _ _=>by kernel_rfl,by decide⟩ (by
 intro pb po n w hc
 go_enter Tryz.func399,Tryz.ntmps399
 go_wp2
 go_ret
 exact⟨rfl,rfl⟩)
theorem Aj2:EaT 231 1 (fun n=>.int .i64 n):=asG (uf:=410) ⟨fun _ _=>by kernel_rfl,fun _=>by kernel_rfl,run_typeAssert_lacksB Tryz.underlying267 (by kernel_rfl) (by kernel_rfl),run_typeAssert_hasB Tryz.underlying260 (by kernel_rfl),fun _ _=>by kernel_rfl,fun _ _=>by kernel_rfl⟩ (by
 intro pb po n w hc
 go_enter Tryz.func410,Tryz.ntmps410
 go_wp2
 go_ret
 exact⟨rfl,rfl⟩)
theorem Atk:EaT 289 1 (fun n=>.int .i64 n):=asG (uf:=448) ⟨fun _ _=>by kernel_rfl,fun _=>by kernel_rfl,run_typeAssert_lacksB Tryz.underlying267 (by kernel_rfl) (by kernel_rfl),run_typeAssert_hasB Tryz.underlying260 (by kernel_rfl),fun _ _=>by kernel_rfl,fun _ _=>by kernel_rfl⟩ (by
 intro pb po n w hc
 go_enter Tryz.func448,Tryz.ntmps448
 go_wp2
 go_ret
 exact⟨rfl,rfl⟩)
theorem Ae4:EaT 398 1 (fun n=>.int .i64 n):=asG (uf:=456) ⟨fun _ _=>by kernel_rfl,fun _=>by kernel_rfl,run_typeAssert_lacksB Tryz.underlying267 (by kernel_rfl) (by kernel_rfl),run_typeAssert_hasB Tryz.underlying260 (by kernel_rfl),fun _ _=>by kernel_rfl,fun _ _=>by kernel_rfl⟩ (by
 intro pb po n w hc
 go_enter Tryz.func456,Tryz.ntmps456
 go_wp2
 go_ret
 exact⟨rfl,rfl⟩)
theorem Asw:EcT 289 1 (fun n=>.int .i64 n):=isG (uf:=448) ⟨run_typeAssert_lacksB Tryz.underlying257 (by kernel_rfl) (by kernel_rfl),run_typeAssert_hasB Tryz.underlying260 (by kernel_rfl),fun _ _=>by kernel_rfl,fun _ _=>by kernel_rfl,by decide⟩ (by
 intro pb po n w hc
 go_enter Tryz.func448,Tryz.ntmps448
 go_wp2
 go_ret
 exact⟨rfl,rfl⟩)
theorem Ad5:EcT 398 1 (fun n=>.int .i64 n):=isG (uf:=456) ⟨run_typeAssert_lacksB Tryz.underlying257 (by kernel_rfl) (by kernel_rfl),run_typeAssert_hasB Tryz.underlying260 (by kernel_rfl),fun _ _=>by kernel_rfl,fun _ _=>by kernel_rfl,by decide⟩ (by
 intro pb po n w hc
 go_enter Tryz.func456,Tryz.ntmps456
 go_wp2
 go_ret
 exact⟨rfl,rfl⟩)
theorem Atl:EaT 155 0 (fun n=>.iface 45 (.int .i64 n)):=asG (uf:=401) ⟨fun _ _=>by kernel_rfl,fun _=>by kernel_rfl,run_typeAssert_lacksB Tryz.underlying267 (by kernel_rfl) (by kernel_rfl),run_typeAssert_hasB Tryz.underlying260 (by kernel_rfl),fun _ _=>by kernel_rfl,fun _ _=>by kernel_rfl⟩ (by
 intro pb po n w hc
 have hc:w.cell? ⟨pb,po,none⟩=some (.iface 45 (.int .i64 n)):=hc
 go_enter Tryz.func401,Tryz.ntmps401
 go_wp2
 go_ret
 exact⟨rfl,rfl⟩)
theorem Asx:EcT 155 0 (fun n=>.iface 45 (.int .i64 n)):=isG (uf:=401) ⟨run_typeAssert_lacksB Tryz.underlying257 (by kernel_rfl) (by kernel_rfl),run_typeAssert_hasB Tryz.underlying260 (by kernel_rfl),fun _ _=>by kernel_rfl,fun _ _=>by kernel_rfl,by decide⟩ (by
 intro pb po n w hc
 have hc:w.cell? ⟨pb,po,none⟩=some (.iface 45 (.int .i64 n)):=hc
 go_enter Tryz.func401,Tryz.ntmps401
 go_wp2
 go_ret
 exact⟨rfl,rfl⟩)
theorem Aj1:EaT 440 1 (fun n=>.int .i64 n):=asG (uf:=464) ⟨fun _ _=>by kernel_rfl,fun _=>by kernel_rfl,run_typeAssert_lacksB Tryz.underlying267 (by kernel_rfl) (by kernel_rfl),run_typeAssert_hasB Tryz.underlying260 (by kernel_rfl),fun _ _=>by kernel_rfl,fun _ _=>by kernel_rfl⟩ (by
 intro pb po n w hc
 go_enter Tryz.func464,Tryz.ntmps464
 go_wp2
 go_ret
 exact⟨rfl,rfl⟩)
end Go.Proofs.YtmohpcgmdheafaaGreatDoor
