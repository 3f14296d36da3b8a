/- The shapes of the arguments; the frame of a law's proof, for laws that only read. -/
import Derived.Test.YtpdmaenhenfofaaGreatDoorZM6
import Derived.Test.YtpdmaenhenfofaaGreatDoorZDt
import Derived.Test.YtpdmaenhenfofaaGreatDoorRows
import Derived.Test.YtpdmaenhenfofaaGreatDoorZCf
import Derived.ChangeSame
import Derived.ChangeVars
import Derived.JoinedOf
import Derived.RowKit
import Derived.RowKitTokens
import Derived.LaidLaws
import Derived.LaidHandle
import Derived.Stop.Joined
import Derived.ReadAgain
import Derived.OpenShut
set_option linter.unusedVariables false
set_option linter.unusedSimpArgs false
namespace Go.Proofs.YtpdmaenhenfofaaGreatDoor
open Go.Am Go.ChangeShapes Go.WideShapes Go.RowKit
set_option maxRecDepth 100000
def Z7:Sh:=.struct [.str,.str]
def RZ:Sh:=.struct [.int .i64,.int .i64,.int .i64,.bool,.slice Z7]
theorem SH {α:Type} {f:α→List T}: ∀{ess:List (List T)},(∀y∈ess,∃a,y=f a)→ ∃l:List α,ess=l.map f
 |[],_=>⟨[],J⟩
 |y::r,h=>by
  obtain⟨a,rfl⟩:=h _ (List.mem_cons_self ..)
  obtain⟨l,rfl⟩:=SH (f:=f) (ess:=r) fun y hy=>h y (by simp[hy])
  exact⟨a::l,J⟩
theorem Aly {xs:List T} (h:Z7.Q xs): ∃r,xs=Bu r:=by
 simp only[Z7,Sh.Q,QL]at h
 obtain⟨_,_,⟨a,rfl⟩,⟨_,_,⟨b,rfl⟩,rfl,rfl⟩,rfl⟩:=h
 exact⟨⟨a,b⟩,J⟩
theorem Adh {xs:List T} (h:RZ.Q xs): ∃b,xs=Ap b:=by
 simp only[RZ,Sh.Q,QL]at h
 obtain⟨_,_,⟨a,rfl⟩,⟨_,_,⟨b,rfl⟩,⟨_,_,⟨c,rfl⟩,⟨_,_,⟨d,rfl⟩,⟨_,_,⟨ess,hs,rfl⟩,rfl,rfl⟩,rfl⟩,rfl⟩,rfl⟩,rfl⟩:=h
 obtain⟨l,rfl⟩:=SH (f:=Bu) fun y hy=>Aly (hs y hy)
 exact⟨⟨a,b,c,d,l⟩,J⟩
theorem Aij:ownKnob Tryz.prog.godebug=none:=Y
theorem Al7:Tryz.prog.globalNamed "errors.errorType" =some 0:=Y
theorem Aea:Tryz.prog.types.size=373:=Y
theorem YD:((List.range 373).filter fun t=>Tryz.prog.rowNamed t [101,114,114,111,114])=[93]:=Y
def M9:List (String×DataW Unit):=[("errors.errorType",Rows.laid_errors_errorType)]
theorem OA {W:World} (h:laidMetH Tryz.prog M9 W):W.cell? ⟨0,0,none⟩=some (.iface 268 (.agg #[.pointer (some ⟨4,93,none⟩)])):=by
 have h':laidMet Tryz.prog [] W∧handlesMet Tryz.prog M9 W:=h
 obtain⟨name,u,ty,e1,e2,e3,e4,e5⟩:=h'.2 _ (List.mem_singleton.2 J)
 have en:name=[101,114,114,111,114]:=(Option.some.inj e1).symm
 subst en
 have eu:(some 268:Option TypeId)=some u:=by rw[←e2];kernel_rfl
 obtain rfl:=Option.some.inj eu
 have hm:ty∈(List.range 373).filter fun t=>Tryz.prog.rowNamed t [101,114,114,111,114]:=List.mem_filter.2 ⟨List.mem_range.2 (by rw[←Aea];exact e3),e4⟩
 rw[YD]at hm
 obtain rfl:=List.mem_singleton.1 hm
 have hh:typeHandle Tryz.prog 93=.pointer (some ⟨4,93,none⟩):=Y
 rw[hh]at e5
 simpa using World.var?_cell Al7 e5 0
noncomputable def Rp (os:Os):World:=
 let w0:=World.holding Tryz.prog os ⟨#[],#[],[]⟩
 {w0 with heap:=w0.heap.modify 0 fun
   |.cells _ t frozen=>.cells #[.iface 268 (.agg #[.pointer (some ⟨4,93,none⟩)])] t frozen
   |o=>o}
theorem PN (os:Os) (args:Array Value):laidMetH Tryz.prog M9 ((Rp os).forCall (fun _ _=>0) ⟨#[],args,[]⟩).memory:=
 laidMetH_of_parts (laidMet_nil _ _) Y
theorem Aeb:Kids Tryz.prog (· <Tryz.prog.types.size):=kids_rows Y Y
theorem Aec: ∀t e,t<Tryz.prog.types.size→Tryz.prog.underlying t=some (.slice e)→0<Tryz.prog.cellsOf e:=slices_full_of Tryz.prog Y
def g00:G:={β:=fun _=>none,own:=fun _=>False,oth:=fun _ _=>False,sp:=fun _=>none,bx:=fun _=>False,lo:=0}
theorem Ahd (b o:Nat): ¬g00.M b o:=fun h=>h.elim (fun x=>x.1) (fun x=>x)
theorem Ad6 {W:World} (h:W.cell? ⟨0,0,none⟩=some (.iface 268 (.agg #[.pointer (some ⟨4,93,none⟩)]))):Go.Am.Inv W g00 []:=
 ⟨fun b B h=>by simp[Go.Am.look]at h,fun b=>by simp[Go.Am.look,g00],fun b b' blk h=>by simp[g00]at h,fun blk h=>h.elim (fun x=>x.elim) (fun⟨_,x⟩=>x.elim),fun b h=>h.elim,fun blk o h=>h.elim,
  fun p hp=>by simp only[gIm,List.mem_singleton]at hp;subst hp;exact⟨Ahd _ _,h⟩,Nat.zero_le _,.empty (fun _ _ h=>by cases h) (fun _=>rfl)⟩
theorem ZG {W:World} {v:Value} {x:T} (h:RelT W (fun _ _=>False) v x):RelT W g00.M v x:=h.mono fun b o u _ h2=>⟨Ahd b o,h2⟩
theorem Sk {W:World} {base:Nat} {t e:TypeId} {v:Value} (hu:Tryz.prog.underlying t=some (.slice e)) (h:Value.okWide Tryz.prog W .any base t v):v.cells.toList=[v]:=by
 cases v<;>simp[Value.okWide,hu,Cell.okWide,Cell.ok]at h<;>simp[Value.cells]
theorem Oa {W:World} {v:Value} {x:T} (h1:v.cells.toList=[v]) (h:Ki W v.cells.toList [x]):Rel W g00 v (.t x):=by
 rw[h1]at h
 exact .t _ _ (ZG (h.2 0 v x J J))
theorem Vo {H:Type} {enc:TypeId×Value→H} {w w':World} {spare:Nat→Bool}: ∀{ts:List TypeId} {vs:List Value} {ds:List (DataW H)} {ps:List MemPlace},DataW.TrodAll enc Tryz.prog w 0 spare true ts vs ds ps→(∀p∈ps,w.sameAt w' p)→DataW.TrodAll enc Tryz.prog w' 0 spare true ts vs ds ps
 |[],[],[],_,h,_=>h
 |_::_,_::_,_::_,_,⟨p,q,⟨n,hn⟩,h2,e⟩,hs=>⟨p,q,⟨n,DataW.trod_carry n _ _ _ hn (fun x hx=>hs x (by rw[e];exact List.mem_append_left _ hx))⟩,Vo h2 (fun x hx=>hs x (by rw[e];exact List.mem_append_right _ hx)),e⟩
theorem Tq {W w':World} {g':G} (hx:Ext W g00 w' g') {p:MemPlace} (hp:p.block<W.heap.size):W.sameAt w' p:=by
 have hk: ∀blk,blk<W.heap.size→w'.heap[blk]?=W.heap[blk]?:=fun blk hb=>hx.keep blk hb (fun h=>h)
 cases p with
 |cell b off=>exact Ch (hk b hp) off none
 |map b=>exact hk b hp
theorem U2 {W w':World} {g':G} (hx:Ext W g00 w' g') (may:MemPlace→Prop):W.keptBut w' may:=by
 refine⟨hx.lo.2.1,hx.lo.2.2,fun i hi=>?_⟩
 rw[hx.keep i hi (fun h=>h)]
 split
 ·rename_i h1 h2;rw[h1]at h2;cases h2;exact⟨J,J,J,fun _ _=>rfl⟩
 ·rename_i h1 h2;rw[h1]at h2;cases h2;exact .inr ⟨J,J⟩
 ·rfl
end Go.Proofs.YtpdmaenhenfofaaGreatDoor
