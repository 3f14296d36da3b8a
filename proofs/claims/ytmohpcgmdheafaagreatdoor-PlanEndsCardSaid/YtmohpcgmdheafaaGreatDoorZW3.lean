/- Contracts and laws, joined: Fa, Fb. No condition beside those that each theorem names. -/
import Derived.Test.YtmohpcgmdheafaaGreatDoorZD1
import Derived.Test.YtmohpcgmdheafaaGreatDoorRows
import Derived.Test.YtmohpcgmdheafaaGreatDoorZT1
import Derived.ChangeSame
import Derived.ChangeVars
import Derived.JoinedOf
import Derived.RowKit
import Derived.RowKitTokens
import Derived.LaidLaws
import Derived.LaidMore
import Derived.LaidHandle
import Derived.Stop.Joined
import Derived.OpenShut
set_option linter.unusedVariables false
set_option linter.unusedSimpArgs false
set_option maxRecDepth 100000
set_option maxHeartbeats 8000000
namespace Go.Proofs.YtmohpcgmdheafaaGreatDoor
open Go.Am Go.ChangeShapes Go.WideShapes Go.RowKit
def Agm:Sh:=.struct [.str,.str]
def UD:Sh:=.struct [.int .i64,.int .i64,.int .i64,.bool,.slice Agm]
def Y3:Sh:=.struct [.int .i64,.int .i64,.int .i64]
def Y4:Sh:=.struct [.int .i64,.int .i64,.int .i64,.slice Y3]
def Agl:Sh:=.struct [.int .i64,.int .i64,.int .i64,.str,.str]
theorem GJ {α:Type} {f:α->List T}: ∀{ess:List (List T)},(∀y∈ess,∃a,y=f a)-> ∃l:List α,ess=l.map f
 |[],_=>⟨[],Y⟩
 |y::r,h=>by
  obtain⟨a,rfl⟩:=h _ (List.mem_cons_self ..)
  obtain⟨l,rfl⟩:=GJ (f:=f) (ess:=r) fun y hy=>h y (by simp[hy])
  exact⟨a::l,Y⟩
theorem Ayi {xs:List T} (h:Agm.Q xs): ∃r,xs=AJ r:=by
 simp only[Agm,Sh.Q,QL]at h
 obtain⟨_,_,⟨a,rfl⟩,⟨_,_,⟨b,rfl⟩,rfl,rfl⟩,rfl⟩:=h
 exact⟨⟨a,b⟩,Y⟩
theorem Alm {xs:List T} (h:UD.Q xs): ∃b,xs=Au b:=by
 simp only[UD,Sh.Q,QL]at h
 obtain⟨_,_,⟨a,rfl⟩,⟨_,_,⟨b,rfl⟩,⟨_,_,⟨c,rfl⟩,⟨_,_,⟨d,rfl⟩,⟨_,_,⟨ess,hs,rfl⟩,rfl,rfl⟩,rfl⟩,rfl⟩,rfl⟩,rfl⟩:=h
 obtain⟨l,rfl⟩:=GJ (f:=AJ) fun y hy=>Ayi (hs y hy)
 exact⟨⟨a,b,c,d,l⟩,Y⟩
theorem Ar4 {xs:List T} (h:Y3.Q xs): ∃r,xs=AM r:=by
 simp only[Y3,Sh.Q,QL]at h
 obtain⟨_,_,⟨a,rfl⟩,⟨_,_,⟨b,rfl⟩,⟨_,_,⟨c,rfl⟩,rfl,rfl⟩,rfl⟩,rfl⟩:=h
 exact⟨⟨a,b,c⟩,Y⟩
theorem Ar5 {xs:List T} (h:Y4.Q xs): ∃b,xs=Al b:=by
 simp only[Y4,Sh.Q,QL]at h
 obtain⟨_,_,⟨a,rfl⟩,⟨_,_,⟨b,rfl⟩,⟨_,_,⟨c,rfl⟩,⟨_,_,⟨ess,hs,rfl⟩,rfl,rfl⟩,rfl⟩,rfl⟩,rfl⟩:=h
 obtain⟨l,rfl⟩:=GJ (f:=AM) fun y hy=>Ar4 (hs y hy)
 exact⟨⟨a,b,c,l⟩,Y⟩
theorem Ayh {xs:List T} (h:Agl.Q xs): ∃r,xs=A8 r:=by
 simp only[Agl,Sh.Q,QL]at h
 obtain⟨_,_,⟨a,rfl⟩,⟨_,_,⟨b,rfl⟩,⟨_,_,⟨c,rfl⟩,⟨_,_,⟨d,rfl⟩,⟨_,_,⟨e,rfl⟩,rfl,rfl⟩,rfl⟩,rfl⟩,rfl⟩,rfl⟩:=h
 exact⟨⟨a,b,c,d,e⟩,Y⟩
theorem As7:ownKnob Tryz.prog.godebug=none:=Ab
theorem Ayy:Tryz.prog.globalNamed "errors.errorType" =some 0:=Ab
theorem Amc:Tryz.prog.types.size=503:=Ab
theorem Aeg:((List.range 503).filter fun t=>Tryz.prog.rowNamed t [101,114,114,111,114])=[69]:=Ab
def O4:List (String×DataW Unit):=Rows.planEndsRow.laid
theorem RK {W:World} (h:laidMetH Tryz.prog O4 W):W.cell? ⟨0,0,none⟩=some (.iface 255 (.agg #[.pointer (some ⟨4,69,none⟩)])):=by
 have h':laidMet Tryz.prog (O4.filter fun x=>x.2.handleName?.isNone) W/\handlesMet Tryz.prog [("errors.errorType",Rows.laid_errors_errorType)] W:=h
 obtain⟨name,u,ty,e1,e2,e3,e4,e5⟩:=h'.2 _ (List.mem_singleton.2 Y)
 have en:name=[101,114,114,111,114]:=(Option.some.inj e1).symm
 subst en
 have eu:(some 255:Option TypeId)=some u:=by rw[<-e2];kernel_rfl
 obtain rfl:=Option.some.inj eu
 have hm:ty∈(List.range 503).filter fun t=>Tryz.prog.rowNamed t [101,114,114,111,114]:=List.mem_filter.2 ⟨List.mem_range.2 (by rw[<-Amc];exact e3),e4⟩
 rw[Aeg]at hm
 obtain rfl:=List.mem_singleton.1 hm
 have hh:typeHandle Tryz.prog 69=.pointer (some ⟨4,69,none⟩):=Ab
 rw[hh]at e5
 simpa using World.var?_cell Ayy e5 0
noncomputable def T8 (os:Os):World:=World.doorLaid Tryz.prog 600 os
theorem S8 (os:Os) (args:Array Value):laidMetH Tryz.prog O4 ((T8 os).forCall (fun _ _=>0) ⟨#[],args,[]⟩).memory:=
 laidMetH_of_parts (laidMet_of_run' 8 Ab Ab) Ab
theorem Amd:Kids Tryz.prog (· <Tryz.prog.types.size):=kids_rows Ab Ab
theorem Ame: ∀t e,t<Tryz.prog.types.size->Tryz.prog.underlying t=some (.slice e)->0<Tryz.prog.cellsOf e:=slices_full_of Tryz.prog Ab
def g00:G:={β:=fun _=>none,own:=fun _=>False,oth:=fun _ _=>False,sp:=fun _=>none,bx:=fun _=>False,lo:=0}
theorem Arc (b o:Nat): ¬g00.M b o:=fun h=>h.elim (fun x=>x.1) (fun x=>x)
theorem Al9 {W:World} (h:W.cell? ⟨0,0,none⟩=some (.iface 255 (.agg #[.pointer (some ⟨4,69,none⟩)]))):Go.Am.Inv W g00 []:=
 ⟨fun b B h=>by simp[Go.Am.look]at h,fun b=>by simp[Go.Am.look,g00],fun b b' blk h=>by simp[g00]at h,fun blk h=>h.elim (fun x=>x.elim) (fun⟨_,x⟩=>x.elim),fun b h=>h.elim,fun blk o h=>h.elim,
  fun p hp=>by simp only[gIm,List.mem_singleton]at hp;subst hp;exact⟨Arc _ _,h⟩,Nat.zero_le _,.empty (fun _ _ h=>by cases h) (fun _=>rfl)⟩
theorem Ws {W:World} {v:Value} {x:T} (h:RelT W (fun _ _=>False) v x):RelT W g00.M v x:=h.mono fun b o u _ h2=>⟨Arc b o,h2⟩
theorem LU {W:World} {v:Value} {x:T} (h1:v.cells.toList=[v]) (h:JG W v.cells.toList [x]):Rel W g00 v (.t x):=by
 rw[h1]at h
 exact .t _ _ (Ws (h.2 0 v x Y Y))
theorem XN {H:Type} {enc:TypeId×Value->H} {w w':World} {spare:Nat->Bool}: ∀{ts:List TypeId} {vs:List Value} {ds:List (DataW H)} {ps:List MemPlace},DataW.TrodAll enc Tryz.prog w 0 spare true ts vs ds ps->(∀p∈ps,w.sameAt w' p)->DataW.TrodAll enc Tryz.prog w' 0 spare true ts vs ds ps
 |[],[],[],_,h,_=>h
 |_::_,_::_,_::_,_,⟨p,q,⟨n,hn⟩,h2,e⟩,hs=>⟨p,q,⟨n,DataW.trod_carry n _ _ _ hn (fun x hx=>hs x (by rw[e];exact List.mem_append_left _ hx))⟩,XN h2 (fun x hx=>hs x (by rw[e];exact List.mem_append_right _ hx)),e⟩
theorem Wf {W w':World} {g':G} (hx:Ext W g00 w' g') {p:MemPlace} (hp:p.block<W.heap.size):W.sameAt w' p:=by
 have hk: ∀blk,blk<W.heap.size->w'.heap[blk]?=W.heap[blk]?:=fun blk hb=>hx.keep blk hb (fun h=>h)
 cases p with
 |cell b off=>exact BX (hk b hp) off none
 |map b=>exact hk b hp
theorem WM {W w':World} {g':G} (hx:Ext W g00 w' g') (may:MemPlace->Prop):W.keptBut w' may:=by
 refine⟨hx.lo.2.1,hx.lo.2.2,fun i hi=>?_⟩
 rw[hx.keep i hi (fun h=>h)]
 split
 ·rename_i h1 h2;rw[h1]at h2;cases h2;exact⟨Y,Y,Y,fun _ _=>rfl⟩
 ·rename_i h1 h2;rw[h1]at h2;cases h2;exact .inr ⟨Y,Y⟩
 ·rfl
theorem Rs {W:World} {base:Nat} {t:TypeId} {k:IntKind} {v:Value} (hu:Tryz.prog.underlying t=some (.int k)) (h:Value.okWide Tryz.prog W .any base t v):v.cells.toList=[v]:=by
 cases v<;>simp[Value.okWide,hu,Cell.okWide,Cell.ok]at h<;>simp[Value.cells]
theorem W8 {W:World} {base:Nat} {t:TypeId} {v:Value} (hu:Tryz.prog.underlying t=some .bool) (h:Value.okWide Tryz.prog W .any base t v):v.cells.toList=[v]:=by
 cases v<;>simp[Value.okWide,hu,Cell.okWide,Cell.ok]at h<;>simp[Value.cells]
theorem S1 {W:World} {base:Nat} {t:TypeId} {fs:Array Field} {v:Value} {xs:List T} (hu:Tryz.prog.underlying t=some (.struct fs)) (h:Value.okWide Tryz.prog W .any base t v) (hr:JG W v.cells.toList xs):Rel W g00 v (.agg (Ah xs)):=by
 unfold Value.okWide at h
 rw[hu]at h
 obtain⟨cs,rfl,_,_⟩:=h
 have hc:(Value.agg cs).cells.toList=cs.toList:=rfl
 rw[hc]at hr
 have:Value.agg cs=Value.agg cs.toList.toArray:=by simp
 rw[this]
 refine .agg cs.toList (Ah xs) (by rw[AU];exact hr.1) fun i v x hv hx=>?_
 rw[BV]at hx
 cases hxi:xs[i]? with
 |none=>simp[hxi]at hx
 |some y=>
  simp[hxi]at hx;subst hx
  exact .t _ _ (Ws (hr.2 i v y hv hxi))
def Agn:Sh:=.struct [.int .i64,.int .i64,.slice UD]
def Y6:Sh:=.struct [.int .i64,.int .i64,.slice Agl,.slice Agn,.slice Y4]
theorem Ayj {xs:List T} (h:Agn.Q xs): ∃b,xs=As b:=by
 simp only[Agn,Sh.Q,QL]at h
 obtain⟨_,_,⟨a,rfl⟩,⟨_,_,⟨b,rfl⟩,⟨_,_,⟨ess,hs,rfl⟩,rfl,rfl⟩,rfl⟩,rfl⟩:=h
 obtain⟨l,rfl⟩:=GJ (f:=Au) fun y hy=>Alm (hs y hy)
 exact⟨⟨a,b,l⟩,Y⟩
theorem YO {xs:List T} (h:Y6.Q xs): ∃b,xs=AD b:=by
 simp only[Y6,Sh.Q,QL]at h
 obtain⟨_,_,⟨a,rfl⟩,⟨_,_,⟨b,rfl⟩,⟨_,_,⟨e1,h1,rfl⟩,⟨_,_,⟨e2,h2,rfl⟩,⟨_,_,⟨e3,h3,rfl⟩,rfl,rfl⟩,rfl⟩,rfl⟩,rfl⟩,rfl⟩:=h
 obtain⟨l1,rfl⟩:=GJ (f:=A8) fun y hy=>Ayh (h1 y hy)
 obtain⟨l2,rfl⟩:=GJ (f:=As) fun y hy=>Ayj (h2 y hy)
 obtain⟨l3,rfl⟩:=GJ (f:=Al) fun y hy=>Ar5 (h3 y hy)
 exact⟨⟨a,b,l1,l2,l3⟩,Y⟩
end Go.Proofs.YtmohpcgmdheafaaGreatDoor
