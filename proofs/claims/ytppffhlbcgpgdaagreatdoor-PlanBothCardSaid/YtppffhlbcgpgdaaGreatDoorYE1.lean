/- Lemmas toward the law; each names its conditions. -/
import Derived.Test.YtppffhlbcgpgdaaGreatDoorProg
import Derived.WalkKit
import Derived.LaidEql
import Derived.Stop.Asserts
import Derived.RowKitTokens
import Derived.Lib.IfaceEq
set_option linter.all false
namespace Go.Proofs.YtppffhlbcgpgdaaGreatDoor
open Go.RowKit Go.Extern.Stop Go.Stop Go.Extern
theorem YU (t:Addr) (w:World):(ReflectliteValue.unpack (.iface 122 (.pointer (some t)))).run Tryz.prog w
  =.ok (.agg #[.pointer (some ⟨4,122,none⟩),.pointer (some ⟨w.heap.size,0,none⟩),.int .u64 150]) (w.alloc (.cells #[.pointer (some t)] 122)):=by kernel_rfl
theorem Am0 (a:Addr) (w:World):(ReflectliteValue.methodAny (ReflectliteValue.valueError "reflectlite.Value.Type" 0) (λt _ _ _=>ReflectliteType.toType t) #[.agg #[.pointer (some ⟨4,122,none⟩),.pointer (some a),.int .u64 150]]).run Tryz.prog w
  =.ok (.iface 233 (.agg #[.pointer (some ⟨4,122,none⟩)])) w:=by kernel_rfl
theorem T8 (h:Value) (w:World):(Go.method 596 233 (.agg #[h]) "Kind").run Tryz.prog w=.ok (331,h) w:=by kernel_rfl
theorem Anb (w:World):((ReflectliteType.abiMethod λt=>Functor.map (λa:Nat=>Value.int IntKind.u8 (a:Int)) (Rtype.kind t)) #[.pointer (some ⟨4,122,none⟩)]).run Tryz.prog w=.ok (.int .u8 22) w:=by kernel_rfl
theorem Anc (w:World):((ReflectliteType.abiMethod λt=>Functor.map (λa:Nat=>Value.int IntKind.u8 (a:Int)) (Rtype.kind t)) #[.pointer (some ⟨4,52,none⟩)]).run Tryz.prog w=.ok (.int .u8 2) w:=by kernel_rfl
theorem Ana (z:Sem Value) (f:TypeId->Addr->Nat->Nat->Sem Value) (v:Value):
  ReflectliteValue.method z f #[v]=(do match<-ReflectliteValue.parts v with|none=>z|some (t,a,fl)=>f t a fl (fl % 32)):=rfl
theorem Ve (a:Addr) (w:World):(ReflectliteValue.parts (.agg #[.pointer (some ⟨4,122,none⟩),.pointer (some a),.int .u64 150])).run Tryz.prog w=.ok (some (122,a,150)) w:=by kernel_rfl
theorem Ahh (a p:Addr) (W:World) (ha:W.cell? a=some (.pointer (some p))):
  (ReflectliteValue.method (ReflectliteValue.valueError "reflectlite.Value.IsNil" 0) ReflectliteValue.isNil #[.agg #[.pointer (some ⟨4,122,none⟩),.pointer (some a),.int .u64 150]]).run Tryz.prog W=.ok (.bool false) W:=by
 rw[Ana];simp only[Sem.run_bind,Ve,Result.andThen];simp[ReflectliteValue.isNil,loadVar,isAgg,underlying,Tryz.underlying122,ha,Result.andThen]
theorem T9 (h:Value) (w:World):(Go.method 596 233 (.agg #[h]) "Elem").run Tryz.prog w=.ok (351,.agg #[h]) w:=by kernel_rfl
theorem Ml (h:Value) (w:World):(Go.method 596 233 (.agg #[h]) "Implements").run Tryz.prog w=.ok (352,.agg #[h]) w:=by kernel_rfl
theorem KL (h:Value) (w:World):(Go.method 596 233 (.agg #[h]) "AssignableTo").run Tryz.prog w=.ok (349,.agg #[h]) w:=by kernel_rfl
theorem Ane (w:World):(ReflectliteType.method ReflectliteType.elem #[.agg #[.pointer (some ⟨4,122,none⟩)]]).run Tryz.prog w=.ok (.iface 233 (.agg #[.pointer (some ⟨4,52,none⟩)])) w:=by kernel_rfl
theorem SG (w:World):(ReflectliteType.relation "Implements" ReflectliteType.implements_ #[.agg #[.pointer (some ⟨4,52,none⟩)],.iface 233 (.agg #[.pointer (some ⟨4,98,none⟩)])]).run Tryz.prog w=.ok (.bool true) w:=by kernel_rfl
theorem Ab1 (v:Value) (w:World):(ReflectliteType.typeOf #[.iface 52 v]).run Tryz.prog w=.ok (.iface 233 (.agg #[.pointer (some ⟨4,52,none⟩)])) w:=by kernel_rfl
theorem SH (w:World):(ReflectliteType.relation "AssignableTo" ReflectliteType.assignableTo #[.agg #[.pointer (some ⟨4,52,none⟩)],.iface 233 (.agg #[.pointer (some ⟨4,52,none⟩)])]).run Tryz.prog w=.ok (.bool true) w:=by kernel_rfl
theorem YV (n:Int) (w:World):(ReflectliteValue.unpack (.iface 52 (.int .i64 n))).run Tryz.prog w
  =.ok (.agg #[.pointer (some ⟨4,52,none⟩),.pointer (some ⟨w.heap.size,0,none⟩),.int .u64 130]) (w.alloc (.cells #[.int .i64 n] 52)):=by kernel_rfl
theorem Ab3 (w:World):(Rtype.elem? 122).run Tryz.prog w=.ok (some 52) w:=by kernel_rfl
theorem Avf (p:Addr) (w:World):(ReflectliteValue.mk 52 p ReflectliteValue.flagAddr).run Tryz.prog w=.ok (.agg #[.pointer (some ⟨4,52,none⟩),.pointer (some p),.int .u64 386]) w:=by kernel_rfl
theorem Ahi (a p:Addr) (W:World) (ha:W.cell? a=some (.pointer (some p))):
  (ReflectliteValue.method (ReflectliteValue.valueError "reflectlite.Value.Elem" 0) ReflectliteValue.elem #[.agg #[.pointer (some ⟨4,122,none⟩),.pointer (some a),.int .u64 150]]).run Tryz.prog W
   =.ok (.agg #[.pointer (some ⟨4,52,none⟩),.pointer (some p),.int .u64 386]) W:=by
 rw[Ana];simp only[Sem.run_bind,Ve,Result.andThen];simp[ReflectliteValue.elem,loadVar,isAgg,underlying,Tryz.underlying122,ha,Result.andThen,Ab3,Avf]
theorem Ave (v x:Value): ∃s1 s2 s3 s4 s5:String,ReflectliteValue.set #[v,x]=(do
  let (some (dst,a,fl),some (src,b,_)):=(<-ReflectliteValue.parts v,<-ReflectliteValue.parts x)
   |unsupported (.noEntry s1)
  if fl/ReflectliteValue.flagAddr % 2==0 then unsupported (.noEntry s2)
  let val<-loadVar src b
  if<-Rtype.directlyAssignable dst src then storeVar dst a val
  else if<-Rtype.implements dst src then
   if(<-Rtype.kind src)==20 then
    match val with
    |.nilIface=>unsupported (.noEntry s3)
    |_=>storeVar dst a val
   else storeVar dst a (.iface src val)
  else panicString (s4++(<-Rtype.spelt src)++s5++(<-Rtype.spelt dst))
  pure (.tuple #[])):=⟨_,_,_,_,_,rfl⟩
theorem Ab2 (a:Addr) (w:World):(ReflectliteValue.parts (.agg #[.pointer (some ⟨4,52,none⟩),.pointer (some a),.int .u64 386])).run Tryz.prog w=.ok (some (52,a,386)) w:=by kernel_rfl
theorem Ahg (a:Addr) (w:World):(ReflectliteValue.parts (.agg #[.pointer (some ⟨4,52,none⟩),.pointer (some a),.int .u64 130])).run Tryz.prog w=.ok (some (52,a,130)) w:=by kernel_rfl
theorem Ab4 (w:World):(Rtype.directlyAssignable 52 52).run Tryz.prog w=.ok true w:=by kernel_rfl
theorem Aru (ta b:Addr) (n:Int) (old:Value) (W:World) (hb:W.cell? b=some (.int .i64 n)) (ht:W.cell? ta=some old) (hf:W.frozen? ta=false):
  (ReflectliteValue.set #[.agg #[.pointer (some ⟨4,52,none⟩),.pointer (some ta),.int .u64 386],.agg #[.pointer (some ⟨4,52,none⟩),.pointer (some b),.int .u64 130]]).run Tryz.prog W
   =.ok (.tuple #[]) (W.setCell ta (.int .i64 n)):=by
 obtain⟨s1,s2,s3,s4,s5,hs⟩:=Ave (.agg #[.pointer (some ⟨4,52,none⟩),.pointer (some ta),.int .u64 386]) (.agg #[.pointer (some ⟨4,52,none⟩),.pointer (some b),.int .u64 130]);rw[hs];simp only[Sem.run_bind,Ab2,Ahg,Result.andThen];simp[ReflectliteValue.flagAddr,loadVar,isAgg,underlying,Tryz.underlying52,hb,Result.andThen,Ab4,storeVar,Value.cells,storeCells,Addr.add];rw[run_store Tryz.prog W ta _ _ (by rfl)];simp[ht,hf]
structure EaF (ft uf:Nat):Prop where
 t: ∀v w,(ReflectliteType.typeOf #[.iface ft v]).run Tryz.prog w=.ok (.iface 233 (.agg #[.pointer (some ⟨4,ft,none⟩)])) w
 a: ∀w,(ReflectliteType.relation "AssignableTo" ReflectliteType.assignableTo #[.agg #[.pointer (some ⟨4,ft,none⟩)],.iface 233 (.agg #[.pointer (some ⟨4,52,none⟩)])]).run Tryz.prog w=.ok (.bool false) w
 n: ∀v xT w,(Instr.typeAssert (.iface ft v) xT 245 true).run Tryz.prog w=.ok (.tuple #[.nilIface,.bool false]) w
 h: ∀v xT w,(Instr.typeAssert (.iface ft v) xT 238 true).run Tryz.prog w=.ok (.tuple #[.iface ft v,.bool true]) w
 m: ∀v w,(Go.method 596 ft v "Unwrap").run Tryz.prog w=.ok (uf,v) w
 c: ∀x w,(callFunc uf x).run Tryz.prog w=.ok (.enter uf x) w
def Xj (uf off:Nat) (N:Int->Value):Prop:= ∀(pb po:Nat) (n:Int) (w:World),w.cell? ⟨pb,po+off,none⟩=some (N n)->Calls Tryz.prog uf #[.pointer (some ⟨pb,po,none⟩)] w λe w'=>e=.returned (.iface 52 (.int .i64 n))/\w'=w
def Fj (ft off:Nat) (N:Int->Value):Prop:= ∀(pb po:Nat) (t:Addr) (n:Int) (old:Value) (w:World) (hg:w.cell? ⟨0,0,none⟩=some (.iface 233 (.agg #[.pointer (some ⟨4,98,none⟩)]))) (he:w.cell? ⟨pb,po+off,none⟩=some (N n)) (lD:w.cell? t=some old) (u4:w.frozen? t=false),
  Calls Tryz.prog 59 #[.iface ft (.pointer (some ⟨pb,po,none⟩)),.iface 122 (.pointer (some t))] w λev w'=>ev=.returned (.bool true)/\w'=((((w.alloc (.cells #[.pointer (some t)] 122)).alloc (.cells #[.pointer (some ⟨4,122,none⟩),.pointer (some ⟨w.heap.size,0,none⟩),.int .u64 150] 169)).alloc (.cells #[.pointer (some ⟨4,122,none⟩),.pointer (some ⟨w.heap.size,0,none⟩),.int .u64 150] 169)).alloc (.cells #[.int .i64 n] 52)).setCell t (.int .i64 n)
set_option maxRecDepth 100000 in
set_option maxHeartbeats 4000000 in
theorem KT {ft uf off:Nat} {N:Int->Value} (F:EaF ft uf) (U:Xj uf off N):Fj ft off N:=by
 intro pb po t n old w hg he lD u4;have h6:= @run_callFunc_extern Tryz.prog 89 _ (λargs=>ReflectliteValue.unpack (args.getD 0 (.tuple #[]))) Tryz.func89 (by kernel_rfl) (by kernel_rfl) (by kernel_rfl) (by kernel_rfl);have h7:= @run_callFunc_extern Tryz.prog 90 _ (ReflectliteValue.methodAny (ReflectliteValue.valueError "reflectlite.Value.Type" 0) (λt _ _ _=>ReflectliteType.toType t)) Tryz.func90 (by kernel_rfl) (by kernel_rfl) (by kernel_rfl) (by kernel_rfl);have h8:= @run_callFunc_extern Tryz.prog 91 _ (ReflectliteValue.method (ReflectliteValue.valueError "reflectlite.Value.IsNil" 0) ReflectliteValue.isNil) Tryz.func91 (by kernel_rfl) (by kernel_rfl) (by kernel_rfl) (by kernel_rfl);have h27:= @run_callFunc_extern Tryz.prog 331 _ (ReflectliteType.abiMethod λt=>do pure (.int .u8 (<-Rtype.kind t))) Tryz.func331 (by kernel_rfl) (by kernel_rfl) (by kernel_rfl) (by kernel_rfl);have h37:= @run_callFunc_extern Tryz.prog 351 _ (ReflectliteType.method ReflectliteType.elem) Tryz.func351 (by kernel_rfl) (by kernel_rfl) (by kernel_rfl) (by kernel_rfl);have h38:= @run_callFunc_extern Tryz.prog 352 _ (ReflectliteType.relation "Implements" ReflectliteType.implements_) Tryz.func352 (by kernel_rfl) (by kernel_rfl) (by kernel_rfl) (by kernel_rfl);have lR:= @run_callFunc_extern Tryz.prog 87 _ ReflectliteType.typeOf Tryz.func87 (by kernel_rfl) (by kernel_rfl) (by kernel_rfl) (by kernel_rfl);have h35:= @run_callFunc_extern Tryz.prog 349 _ (ReflectliteType.relation "AssignableTo" ReflectliteType.assignableTo) Tryz.func349 (by kernel_rfl) (by kernel_rfl) (by kernel_rfl) (by kernel_rfl);have h11:= @run_callFunc_extern Tryz.prog 129 _ (ReflectliteValue.method (ReflectliteValue.valueError "reflectlite.Value.Elem" 0) ReflectliteValue.elem) Tryz.func129 (by kernel_rfl) (by kernel_rfl) (by kernel_rfl) (by kernel_rfl);have h12:= @run_callFunc_extern Tryz.prog 130 _ ReflectliteValue.set Tryz.func130 (by kernel_rfl) (by kernel_rfl) (by kernel_rfl) (by kernel_rfl);have mK:=T8;have mE:=T9;have mI:=Ml;have mA:=KL;have f6:=YU;have f7:=Am0;have k27:=Anb;have k25:=Anc;have e27:=Ane;have i25:=SG;have tO:=Ab1;have a25:=SH;have v25:=YV;have tF:=F.t;have aF:=F.a;have nA:=F.n;have hU:=F.h;have mU:=F.m;have cF:=F.c;have aC:0<w.heap.size:=World.block_lt_of_cell? _ _ hg;have dY:t.block<w.heap.size:=World.block_lt_of_cell? _ _ lD;have fM:pb<w.heap.size:=World.block_lt_of_cell? _ _ he;have n8:=Ahh ⟨w.heap.size,0,none⟩ t ((w.alloc (.cells #[.pointer (some t)] 122)).alloc (.cells #[.pointer (some ⟨4,122,none⟩),.pointer (some ⟨w.heap.size,0,none⟩),.int .u64 150] 169)) (by simp)
 have jH:((w.alloc (.cells #[.pointer (some t)] 122)).alloc (.cells #[.pointer (some ⟨4,122,none⟩),.pointer (some ⟨w.heap.size,0,none⟩),.int .u64 150] 169)).cell? ⟨0,0,none⟩=some (.iface 233 (.agg #[.pointer (some ⟨4,98,none⟩)])):=by
  rw[World.cell?_alloc_lt _ _ ⟨0,0,none⟩ (by simp),World.cell?_alloc_lt _ _ ⟨0,0,none⟩ aC];exact hg
 have lN:(((w.alloc (.cells #[.pointer (some t)] 122)).alloc (.cells #[.pointer (some ⟨4,122,none⟩),.pointer (some ⟨w.heap.size,0,none⟩),.int .u64 150] 169)).alloc (.cells #[.pointer (some ⟨4,122,none⟩),.pointer (some ⟨w.heap.size,0,none⟩),.int .u64 150] 169)).cell? ⟨pb,po+off,none⟩=some (N n):=by
  rw[World.cell?_alloc_lt _ _ ⟨pb,po+off,none⟩ (by simp;omega),World.cell?_alloc_lt _ _ ⟨pb,po+off,none⟩ (by simp;omega),World.cell?_alloc_lt _ _ ⟨pb,po+off,none⟩ fM];exact he
 have u3:=U pb po n _ lN;have el:=Ahi ⟨w.heap.size,0,none⟩ t (((w.alloc (.cells #[.pointer (some t)] 122)).alloc (.cells #[.pointer (some ⟨4,122,none⟩),.pointer (some ⟨w.heap.size,0,none⟩),.int .u64 150] 169)).alloc (.cells #[.pointer (some ⟨4,122,none⟩),.pointer (some ⟨w.heap.size,0,none⟩),.int .u64 150] 169)) (by rw[World.cell?_alloc_lt _ _ ⟨w.heap.size,0,none⟩ (by simp;omega)];simp)
 have st:=Aru t ⟨w.heap.size+1+1+1,0,none⟩ n old ((((w.alloc (.cells #[.pointer (some t)] 122)).alloc (.cells #[.pointer (some ⟨4,122,none⟩),.pointer (some ⟨w.heap.size,0,none⟩),.int .u64 150] 169)).alloc (.cells #[.pointer (some ⟨4,122,none⟩),.pointer (some ⟨w.heap.size,0,none⟩),.int .u64 150] 169)).alloc (.cells #[.int .i64 n] 52))
  (by rw[World.cell?_alloc_at _ _ _ _ (by simp)];rfl)
  (by rw[World.cell?_alloc_lt _ _ t (by simp;omega),World.cell?_alloc_lt _ _ t (by simp;omega),World.cell?_alloc_lt _ _ t (by simp;omega),World.cell?_alloc_lt _ _ t dY];exact lD)
  (by rw[World.frozen?_alloc_old _ _ t (by simp;omega),World.frozen?_alloc_old _ _ t (by simp;omega),World.frozen?_alloc_old _ _ t (by simp;omega),World.frozen?_alloc_old _ _ t (Nat.ne_of_lt dY)];exact u4)
 go_enter Tryz.func59,Tryz.ntmps59
 go_wp2
 refine wp_loop_rounds 2 ?_;rw[rounds_succ]
 go_wp2_with (with_reducible (refine u3.mono ?_);rintro e w' ⟨rfl,rfl⟩)
 rw[rounds_succ]
 go_wp2
 go_ret
 exact⟨rfl,rfl⟩
theorem Ase:Fj 406 1 (λn=>.int .i64 n):=KT (uf:=399) ⟨λ_ _=>by kernel_rfl,λ_=>by kernel_rfl,run_typeAssert_lacksB Tryz.underlying245 (by kernel_rfl) (by kernel_rfl),run_typeAssert_hasB Tryz.underlying238 (by kernel_rfl),λ_ _=>by kernel_rfl,λ_ _=>by kernel_rfl⟩ (by
 intro pb po n w hc
 go_enter Tryz.func399,Tryz.ntmps399
 go_wp2
 go_ret
 exact⟨rfl,rfl⟩)
theorem An4:Fj 214 1 (λn=>.int .i64 n):=KT (uf:=345) ⟨λ_ _=>by kernel_rfl,λ_=>by kernel_rfl,run_typeAssert_lacksB Tryz.underlying245 (by kernel_rfl) (by kernel_rfl),run_typeAssert_hasB Tryz.underlying238 (by kernel_rfl),λ_ _=>by kernel_rfl,λ_ _=>by kernel_rfl⟩ (by
 intro pb po n w hc
 go_enter Tryz.func345,Tryz.ntmps345
 go_wp2
 go_ret
 exact⟨rfl,rfl⟩)
theorem Avn:Fj 399 1 (λn=>.int .i64 n):=KT (uf:=397) ⟨λ_ _=>by kernel_rfl,λ_=>by kernel_rfl,run_typeAssert_lacksB Tryz.underlying245 (by kernel_rfl) (by kernel_rfl),run_typeAssert_hasB Tryz.underlying238 (by kernel_rfl),λ_ _=>by kernel_rfl,λ_ _=>by kernel_rfl⟩ (by
 intro pb po n w hc
 go_enter Tryz.func397,Tryz.ntmps397
 go_wp2
 go_ret
 exact⟨rfl,rfl⟩)
theorem Avp:Fj 220 1 (λn=>.int .i64 n):=KT (uf:=347) ⟨λ_ _=>by kernel_rfl,λ_=>by kernel_rfl,run_typeAssert_lacksB Tryz.underlying245 (by kernel_rfl) (by kernel_rfl),run_typeAssert_hasB Tryz.underlying238 (by kernel_rfl),λ_ _=>by kernel_rfl,λ_ _=>by kernel_rfl⟩ (by
 intro pb po n w hc
 go_enter Tryz.func347,Tryz.ntmps347
 go_wp2
 go_ret
 exact⟨rfl,rfl⟩)
theorem Ahz:Fj 372 1 (λn=>.int .i64 n):=KT (uf:=390) ⟨λ_ _=>by kernel_rfl,λ_=>by kernel_rfl,run_typeAssert_lacksB Tryz.underlying245 (by kernel_rfl) (by kernel_rfl),run_typeAssert_hasB Tryz.underlying238 (by kernel_rfl),λ_ _=>by kernel_rfl,λ_ _=>by kernel_rfl⟩ (by
 intro pb po n w hc
 go_enter Tryz.func390,Tryz.ntmps390
 go_wp2
 go_ret
 exact⟨rfl,rfl⟩)
theorem Ahd (v:Value) (w:World):(Extern.ReflectliteType.typeOf #[.iface 52 v]).run Tryz.prog w=.ok (.iface 233 (.agg #[.pointer (some ⟨4,52,none⟩)])) w:=by kernel_rfl
theorem T7 (w:World):((Extern.ReflectliteType.method λt=>do Rtype.noPackHeld "Comparable" t;Functor.map (λa=>Value.bool a.comparable) (typeInfo t)) #[.agg #[.pointer (some ⟨4,52,none⟩)]]).run Tryz.prog w=.ok (.bool true) w:=by kernel_rfl
theorem Mk (v:Value) (w:World):(Go.method 596 233 v "Comparable").run Tryz.prog w=.ok (350,v) w:=by kernel_rfl
theorem Aed:(Tryz.prog.info? 52).map (·.comparable)=some true:=by kernel_rfl
theorem Arl (v:Value) (xT:TypeId) (w:World):(Instr.typeAssert (.iface 52 v) xT 235 true).run Tryz.prog w=.ok (.tuple #[.nilIface,.bool false]) w:=run_typeAssert_lacksB Tryz.underlying235 (by kernel_rfl) (by kernel_rfl) v xT w
theorem YT (v:Value) (xT:TypeId) (w:World):(Instr.typeAssert (.iface 52 v) xT 238 true).run Tryz.prog w=.ok (.tuple #[.nilIface,.bool false]) w:=run_typeAssert_lacksB Tryz.underlying238 (by kernel_rfl) (by kernel_rfl) v xT w
theorem Wv (v:Value) (xT:TypeId) (w:World):(Instr.typeAssert (.iface 52 v) xT 240 true).run Tryz.prog w=.ok (.tuple #[.nilIface,.bool false]) w:=run_typeAssert_lacksB Tryz.underlying240 (by kernel_rfl) (by kernel_rfl) v xT w
theorem Auy (k:Int) (w:World):Calls Tryz.prog 58 #[.nilIface,.iface 52 (.int .i64 k)] w λe w'=>e=.returned (.bool false)/\w'=w:=by
 have hn:=run_eql_iface_nil_left (P:=Tryz.prog) w 52 (.int .i64 k) Tryz.underlying98
 go_enter Tryz.func58,Tryz.ntmps58
 go_wp2
 go_ret
 exact⟨rfl,rfl⟩
structure EcF (ft uf:Nat):Prop where
 n: ∀v xT w,(Instr.typeAssert (.iface ft v) xT 235 true).run Tryz.prog w=.ok (.tuple #[.nilIface,.bool false]) w
 h: ∀v xT w,(Instr.typeAssert (.iface ft v) xT 238 true).run Tryz.prog w=.ok (.tuple #[.iface ft v,.bool true]) w
 m: ∀v w,(Go.method 596 ft v "Unwrap").run Tryz.prog w=.ok (uf,v) w
 c: ∀x w,(callFunc uf x).run Tryz.prog w=.ok (.enter uf x) w
 e:ft≠52
def Xi (uf off:Nat) (N:Int->Value):Prop:= ∀(pb po:Nat) (n:Int) (w:World),w.cell? ⟨pb,po+off,none⟩=some (N n)->Calls Tryz.prog uf #[.pointer (some ⟨pb,po,none⟩)] w λe w'=>e=.returned (.iface 52 (.int .i64 n))/\w'=w
def WZ (ft off:Nat) (N:Int->Value):Prop:= ∀(pb po:Nat) (n k:Int) (w:World),w.cell? ⟨pb,po+off,none⟩=some (N n)->
  Calls Tryz.prog 58 #[.iface ft (.pointer (some ⟨pb,po,none⟩)),.iface 52 (.int .i64 k)] w λev w'=>ev=.returned (.bool (decide (n=k)))/\w'=w
set_option maxRecDepth 100000 in
set_option maxHeartbeats 4000000 in
theorem Xw {ft uf off:Nat} {N:Int->Value} (F:EcF ft uf) (U:Xi uf off N):WZ ft off N:=by
 intro pb po n k w he;have u3:=U pb po n w he;have h8:= @run_callFunc_extern Tryz.prog 87 _ Extern.ReflectliteType.typeOf Tryz.func87 (by kernel_rfl) (by kernel_rfl) (by kernel_rfl) (by kernel_rfl);have h32:= @run_callFunc_extern Tryz.prog 350 _ (Extern.ReflectliteType.method λt=>do Rtype.noPackHeld "Comparable" t;pure (.bool (<-typeInfo t).comparable)) Tryz.func350 (by kernel_rfl) (by kernel_rfl) (by kernel_rfl) (by kernel_rfl);have tT:=Ahd;have cT:=T7;have mR:=Mk;have nE:=Arl;have uE:=YT;have vE:=Wv;have nW:=F.n;have uW:=F.h;have mU:=F.m;have cF:=F.c;have eG:=run_eql_iface_types (P:=Tryz.prog) ft 52 (.pointer (some ⟨pb,po,none⟩)) (.int .i64 k) Tryz.underlying98 F.e w;by_cases hnk:n=k
 ·subst hnk
  have s8:(binOp .eql 98 (.iface 52 (.int .i64 n)) (.iface 52 (.int .i64 n))).run Tryz.prog w=.ok (.bool true) w:=by
   rw[Go.Lib.run_eql_iface_int (P:=Tryz.prog) w n n Tryz.underlying98 Aed Tryz.underlying52];simp
  simp only[decide_true]
  go_enter Tryz.func58,Tryz.ntmps58
  go_wp2
  refine wp_loop_rounds 2 ?_;rw[rounds_succ]
  go_wp2_with (with_reducible (refine u3.mono ?_);rintro e w' ⟨rfl,rfl⟩)
  rw[rounds_succ]
  go_wp2
  go_ret
  exact⟨rfl,rfl⟩
 ·have s8:(binOp .eql 98 (.iface 52 (.int .i64 n)) (.iface 52 (.int .i64 k))).run Tryz.prog w=.ok (.bool false) w:=by
   rw[Go.Lib.run_eql_iface_int (P:=Tryz.prog) w n k Tryz.underlying98 Aed Tryz.underlying52];simp[hnk]
  simp only[hnk,decide_false]
  go_enter Tryz.func58,Tryz.ntmps58
  go_wp2
  refine wp_loop_rounds 2 ?_;rw[rounds_succ]
  go_wp2_with (with_reducible (refine u3.mono ?_);rintro e w' ⟨rfl,rfl⟩)
  rw[rounds_succ]
  go_wp2
  go_ret
  exact⟨rfl,rfl⟩
theorem Alq:WZ 214 1 (λn=>.int .i64 n):=Xw (uf:=345) ⟨run_typeAssert_lacksB Tryz.underlying235 (by kernel_rfl) (by kernel_rfl),run_typeAssert_hasB Tryz.underlying238 (by kernel_rfl),λ_ _=>by kernel_rfl,λ_ _=>by kernel_rfl,by decide⟩ (by
 intro pb po n w hc
 go_enter Tryz.func345,Tryz.ntmps345
 go_wp2
 go_ret
 exact⟨rfl,rfl⟩)
theorem Au1:WZ 220 1 (λn=>.int .i64 n):=Xw (uf:=347) ⟨run_typeAssert_lacksB Tryz.underlying235 (by kernel_rfl) (by kernel_rfl),run_typeAssert_hasB Tryz.underlying238 (by kernel_rfl),λ_ _=>by kernel_rfl,λ_ _=>by kernel_rfl,by decide⟩ (by
 intro pb po n w hc
 go_enter Tryz.func347,Tryz.ntmps347
 go_wp2
 go_ret
 exact⟨rfl,rfl⟩)
theorem Agy:WZ 372 1 (λn=>.int .i64 n):=Xw (uf:=390) ⟨run_typeAssert_lacksB Tryz.underlying235 (by kernel_rfl) (by kernel_rfl),run_typeAssert_hasB Tryz.underlying238 (by kernel_rfl),λ_ _=>by kernel_rfl,λ_ _=>by kernel_rfl,by decide⟩ (by
 intro pb po n w hc
 go_enter Tryz.func390,Tryz.ntmps390
 go_wp2
 go_ret
 exact⟨rfl,rfl⟩)
theorem An2:Fj 130 1 (λn=>.int .i64 n):=KT (uf:=336) ⟨λ_ _=>by kernel_rfl,λ_=>by kernel_rfl,run_typeAssert_lacksB Tryz.underlying245 (by kernel_rfl) (by kernel_rfl),run_typeAssert_hasB Tryz.underlying238 (by kernel_rfl),λ_ _=>by kernel_rfl,λ_ _=>by kernel_rfl⟩ (by
 intro pb po n w hc
 go_enter Tryz.func336,Tryz.ntmps336
 go_wp2
 go_ret
 exact⟨rfl,rfl⟩)
theorem Avs:Fj 264 1 (λn=>.int .i64 n):=KT (uf:=360) ⟨λ_ _=>by kernel_rfl,λ_=>by kernel_rfl,run_typeAssert_lacksB Tryz.underlying245 (by kernel_rfl) (by kernel_rfl),run_typeAssert_hasB Tryz.underlying238 (by kernel_rfl),λ_ _=>by kernel_rfl,λ_ _=>by kernel_rfl⟩ (by
 intro pb po n w hc
 go_enter Tryz.func360,Tryz.ntmps360
 go_wp2
 go_ret
 exact⟨rfl,rfl⟩)
theorem Aln:WZ 130 1 (λn=>.int .i64 n):=Xw (uf:=336) ⟨run_typeAssert_lacksB Tryz.underlying235 (by kernel_rfl) (by kernel_rfl),run_typeAssert_hasB Tryz.underlying238 (by kernel_rfl),λ_ _=>by kernel_rfl,λ_ _=>by kernel_rfl,by decide⟩ (by
 intro pb po n w hc
 go_enter Tryz.func336,Tryz.ntmps336
 go_wp2
 go_ret
 exact⟨rfl,rfl⟩)
theorem Au4:WZ 264 1 (λn=>.int .i64 n):=Xw (uf:=360) ⟨run_typeAssert_lacksB Tryz.underlying235 (by kernel_rfl) (by kernel_rfl),run_typeAssert_hasB Tryz.underlying238 (by kernel_rfl),λ_ _=>by kernel_rfl,λ_ _=>by kernel_rfl,by decide⟩ (by
 intro pb po n w hc
 go_enter Tryz.func360,Tryz.ntmps360
 go_wp2
 go_ret
 exact⟨rfl,rfl⟩)
theorem Avq:Fj 197 0 (λn=>.iface 52 (.int .i64 n)):=KT (uf:=343) ⟨λ_ _=>by kernel_rfl,λ_=>by kernel_rfl,run_typeAssert_lacksB Tryz.underlying245 (by kernel_rfl) (by kernel_rfl),run_typeAssert_hasB Tryz.underlying238 (by kernel_rfl),λ_ _=>by kernel_rfl,λ_ _=>by kernel_rfl⟩ (by
 intro pb po n w hc;have hc:w.cell? ⟨pb,po,none⟩=some (.iface 52 (.int .i64 n)):=hc
 go_enter Tryz.func343,Tryz.ntmps343
 go_wp2
 go_ret
 exact⟨rfl,rfl⟩)
theorem Au2:WZ 197 0 (λn=>.iface 52 (.int .i64 n)):=Xw (uf:=343) ⟨run_typeAssert_lacksB Tryz.underlying235 (by kernel_rfl) (by kernel_rfl),run_typeAssert_hasB Tryz.underlying238 (by kernel_rfl),λ_ _=>by kernel_rfl,λ_ _=>by kernel_rfl,by decide⟩ (by
 intro pb po n w hc;have hc:w.cell? ⟨pb,po,none⟩=some (.iface 52 (.int .i64 n)):=hc
 go_enter Tryz.func343,Tryz.ntmps343
 go_wp2
 go_ret
 exact⟨rfl,rfl⟩)
theorem An3:Fj 425 1 (λn=>.int .i64 n):=KT (uf:=401) ⟨λ_ _=>by kernel_rfl,λ_=>by kernel_rfl,run_typeAssert_lacksB Tryz.underlying245 (by kernel_rfl) (by kernel_rfl),run_typeAssert_hasB Tryz.underlying238 (by kernel_rfl),λ_ _=>by kernel_rfl,λ_ _=>by kernel_rfl⟩ (by
 intro pb po n w hc
 go_enter Tryz.func401,Tryz.ntmps401
 go_wp2
 go_ret
 exact⟨rfl,rfl⟩)
