/- Contracts and laws, joined: Fa, Fb, Ff. No condition beside those that each theorem names. -/
import Derived.Test.YthjoclecnacdiaaGreatDoorZM6
import Derived.Test.YthjoclecnacdiaaGreatDoorZD1
import Derived.Test.YthjoclecnacdiaaGreatDoorRows
import Derived.Test.YthjoclecnacdiaaGreatDoorZT1
import Derived.ChangeSame
import Derived.ChangeVars
import Derived.JoinedOf
import Derived.RowKit
import Derived.RowKitTokens
import Derived.LaidLaws
import Derived.LaidMore
import Derived.LaidHandle
import Derived.Stop.Joined
import Derived.ReadAgain
import Derived.OpenShut
import Derived.Test.YthjoclecnacdiaaGreatDoorZW1
set_option linter.unusedVariables false
set_option linter.unusedSimpArgs false
namespace Go.Proofs.YthjoclecnacdiaaGreatDoor
open Go.Am Go.ChangeShapes Go.WideShapes Go.RowKit
set_option maxRecDepth 100000
def T5:Sh:=.struct [.str,.str]
def NG:Sh:=.struct [.int .i64,.int .i64,.int .i64,.bool,.slice T5]
def T3:Sh:=.struct [.int .i64,.int .i64,.int .i64,.str,.str]
theorem JD {α:Type} {f:α→List T}: ∀{ess:List (List T)},(∀y∈ess,∃a,y=f a)→ ∃l:List α,ess=l.map f
 |[],_=>⟨[],J⟩
 |y::r,h=>by
  obtain⟨a,rfl⟩:=h _ (List.mem_cons_self ..)
  obtain⟨l,rfl⟩:=JD (f:=f) (ess:=r) fun y hy=>h y (by simp[hy])
  exact⟨a::l,J⟩
theorem Abb {xs:List T} (h:T5.Q xs): ∃r,xs=Bk r:=by
 simp only[T5,Sh.Q,QL]at h
 obtain⟨_,_,⟨a,rfl⟩,⟨_,_,⟨b,rfl⟩,rfl,rfl⟩,rfl⟩:=h
 exact⟨⟨a,b⟩,J⟩
theorem V5 {xs:List T} (h:NG.Q xs): ∃b,xs=Bj b:=by
 simp only[NG,Sh.Q,QL]at h
 obtain⟨_,_,⟨a,rfl⟩,⟨_,_,⟨b,rfl⟩,⟨_,_,⟨c,rfl⟩,⟨_,_,⟨d,rfl⟩,⟨_,_,⟨ess,hs,rfl⟩,rfl,rfl⟩,rfl⟩,rfl⟩,rfl⟩,rfl⟩:=h
 obtain⟨l,rfl⟩:=JD (f:=Bk) fun y hy=>Abb (hs y hy)
 exact⟨⟨a,b,c,d,l⟩,J⟩
theorem Aa9 {xs:List T} (h:T3.Q xs): ∃r,xs=AK r:=by
 simp only[T3,Sh.Q,QL]at h
 obtain⟨_,_,⟨a,rfl⟩,⟨_,_,⟨b,rfl⟩,⟨_,_,⟨c,rfl⟩,⟨_,_,⟨d,rfl⟩,⟨_,_,⟨e,rfl⟩,rfl,rfl⟩,rfl⟩,rfl⟩,rfl⟩,rfl⟩:=h
 exact⟨⟨a,b,c,d,e⟩,J⟩
theorem Yx:ownKnob Tryz.prog.godebug=none:=U
theorem Abj:Tryz.prog.globalNamed "errors.errorType" =some 0:=U
theorem VN:Tryz.prog.types.size=366:=U
theorem SZ:((List.range 366).filter fun t=>Tryz.prog.rowNamed t [101,114,114,111,114])=[73]:=U
def Kd:List (String×DataW Unit):=Rows.convertAsksRow.laid
theorem LP {W:World} (h:laidMetH Tryz.prog Kd W):W.cell? ⟨0,0,none⟩=some (.iface 183 (.agg #[.pointer (some ⟨4,73,none⟩)])):=by
 have h':laidMet Tryz.prog (Kd.filter fun x=>x.2.handleName?.isNone) W∧handlesMet Tryz.prog [("errors.errorType",Rows.laid_errors_errorType)] W:=h
 obtain⟨name,u,ty,e1,e2,e3,e4,e5⟩:=h'.2 _ (List.mem_singleton.2 J)
 have en:name=[101,114,114,111,114]:=(Option.some.inj e1).symm
 subst en
 have eu:(some 183:Option TypeId)=some u:=by rw[←e2];kernel_rfl
 obtain rfl:=Option.some.inj eu
 have hm:ty∈(List.range 366).filter fun t=>Tryz.prog.rowNamed t [101,114,114,111,114]:=List.mem_filter.2 ⟨List.mem_range.2 (by rw[←VN];exact e3),e4⟩
 rw[SZ]at hm
 obtain rfl:=List.mem_singleton.1 hm
 have hh:typeHandle Tryz.prog 73=.pointer (some ⟨4,73,none⟩):=U
 rw[hh]at e5
 simpa using World.var?_cell Abj e5 0
noncomputable def Nj (os:Os):World:=World.doorLaid Tryz.prog 600 os
theorem Mv (os:Os) (args:Array Value):laidMetH Tryz.prog Kd ((Nj os).forCall (fun _ _=>0) ⟨#[],args,[]⟩).memory:=
 laidMetH_of_parts (laidMet_of_run' 8 U U) U
theorem VO:Kids Tryz.prog (· <Tryz.prog.types.size):=kids_rows U U
theorem VP: ∀t e,t<Tryz.prog.types.size→Tryz.prog.underlying t=some (.slice e)→0<Tryz.prog.cellsOf e:=slices_full_of Tryz.prog U
def g00:G:={β:=fun _=>none,own:=fun _=>False,oth:=fun _ _=>False,sp:=fun _=>none,bx:=fun _=>False,lo:=0}
theorem XA (b o:Nat): ¬g00.M b o:=fun h=>h.elim (fun x=>x.1) (fun x=>x)
theorem VJ {W:World} (h:W.cell? ⟨0,0,none⟩=some (.iface 183 (.agg #[.pointer (some ⟨4,73,none⟩)]))):Go.Am.Inv W g00 []:=
 ⟨fun b B h=>by simp[Go.Am.look]at h,fun b=>by simp[Go.Am.look,g00],fun b b' blk h=>by simp[g00]at h,fun blk h=>h.elim (fun x=>x.elim) (fun⟨_,x⟩=>x.elim),fun b h=>h.elim,fun blk o h=>h.elim,
  fun p hp=>by simp only[gIm,List.mem_singleton]at hp;subst hp;exact⟨XA _ _,h⟩,Nat.zero_le _,.empty (fun _ _ h=>by cases h) (fun _=>rfl)⟩
theorem OG {W:World} {v:Value} {x:T} (h:RelT W (fun _ _=>False) v x):RelT W g00.M v x:=h.mono fun b o u _ h2=>⟨XA b o,h2⟩
theorem NQ {W:World} {base:Nat} {t e:TypeId} {v:Value} (hu:Tryz.prog.underlying t=some (.slice e)) (h:Value.okWide Tryz.prog W .any base t v):v.cells.toList=[v]:=by
 cases v<;>simp[Value.okWide,hu,Cell.okWide,Cell.ok]at h<;>simp[Value.cells]
theorem Lu {W:World} {v:Value} {x:T} (h1:v.cells.toList=[v]) (h:Hs W v.cells.toList [x]):Rel W g00 v (.t x):=by
 rw[h1]at h
 exact .t _ _ (OG (h.2 0 v x J J))
theorem PK {H:Type} {enc:TypeId×Value→H} {w w':World} {spare:Nat→Bool}: ∀{ts:List TypeId} {vs:List Value} {ds:List (DataW H)} {ps:List MemPlace},DataW.TrodAll enc Tryz.prog w 0 spare true ts vs ds ps→(∀p∈ps,w.sameAt w' p)→DataW.TrodAll enc Tryz.prog w' 0 spare true ts vs ds ps
 |[],[],[],_,h,_=>h
 |_::_,_::_,_::_,_,⟨p,q,⟨n,hn⟩,h2,e⟩,hs=>⟨p,q,⟨n,DataW.trod_carry n _ _ _ hn (fun x hx=>hs x (by rw[e];exact List.mem_append_left _ hx))⟩,PK h2 (fun x hx=>hs x (by rw[e];exact List.mem_append_right _ hx)),e⟩
theorem O5 {W w':World} {g':G} (hx:Ext W g00 w' g') {p:MemPlace} (hp:p.block<W.heap.size):W.sameAt w' p:=by
 have hk: ∀blk,blk<W.heap.size→w'.heap[blk]?=W.heap[blk]?:=fun blk hb=>hx.keep blk hb (fun h=>h)
 cases p with
 |cell b off=>exact BS (hk b hp) off none
 |map b=>exact hk b hp
theorem OW {W w':World} {g':G} (hx:Ext W g00 w' g') (may:MemPlace→Prop):W.keptBut w' may:=by
 refine⟨hx.lo.2.1,hx.lo.2.2,fun i hi=>?_⟩
 rw[hx.keep i hi (fun h=>h)]
 split
 ·rename_i h1 h2;rw[h1]at h2;cases h2;exact⟨J,J,J,fun _ _=>rfl⟩
 ·rename_i h1 h2;rw[h1]at h2;cases h2;exact .inr ⟨J,J⟩
 ·rfl
end Go.Proofs.YthjoclecnacdiaaGreatDoor
namespace Go.Proofs.YthjoclecnacdiaaGreatDoor
open Go.Am Go.ChangeShapes Go.WideShapes Go.RowKit
set_option maxRecDepth 100000
theorem Q7 {W:World} {base:Nat} {t:TypeId} {k:IntKind} {v:Value} (hu:Tryz.prog.underlying t=some (.int k)) (h:Value.okWide Tryz.prog W .any base t v):v.cells.toList=[v]:=by
 cases v<;>simp[Value.okWide,hu,Cell.okWide,Cell.ok]at h<;>simp[Value.cells]
theorem HP {W:World} {base:Nat} {t:TypeId} {fs:Array Field} {v:Value} {xs:List T} (hu:Tryz.prog.underlying t=some (.struct fs)) (h:Value.okWide Tryz.prog W .any base t v) (hr:Hs W v.cells.toList xs):Rel W g00 v (.agg (AA xs)):=by
 unfold Value.okWide at h
 rw[hu]at h
 obtain⟨cs,rfl,_,_⟩:=h
 have hc:(Value.agg cs).cells.toList=cs.toList:=rfl
 rw[hc]at hr
 have:Value.agg cs=Value.agg cs.toList.toArray:=by simp
 rw[this]
 refine .agg cs.toList (AA xs) (by rw[Bw];exact hr.1) fun i v x hv hx=>?_
 rw[BZ]at hx
 cases hxi:xs[i]? with
 |none=>simp[hxi]at hx
 |some y=>
  simp[hxi]at hx;subst hx
  exact .t _ _ (OG (hr.2 i v y hv hxi))
end Go.Proofs.YthjoclecnacdiaaGreatDoor
namespace Go.Proofs.YthjoclecnacdiaaGreatDoor
open Go.Am Go.ChangeShapes Go.WideShapes Go.RowKit
set_option maxRecDepth 100000
def T4:Sh:=.struct [.int .i8,.int .i64,.int .i64,.int .i64,.int .i64,.int .i64,.int .i64,.int .i64,.int .i64,.bool,NG]
def NF:Sh:=.struct [.int .i8,.int .i64,.int .i64,.int .i64,.int .i64,.slice T3]
def NE:Sh:=.struct [.int .i64,.int .i64,.slice (.int .i64)]
theorem Aba {xs:List T} (h:T4.Q xs): ∃a,xs=BU a:=by
 simp only[T4,Sh.Q,QL]at h
 obtain⟨_,_,⟨a,rfl⟩,⟨_,_,⟨b_,rfl⟩,⟨_,_,⟨c,rfl⟩,⟨_,_,⟨d,rfl⟩,⟨_,_,⟨e,rfl⟩,⟨_,_,⟨f,rfl⟩,⟨_,_,⟨g,rfl⟩,⟨_,_,⟨h_,rfl⟩,⟨_,_,⟨i,rfl⟩,⟨_,_,⟨j,rfl⟩,⟨_,_,hb,rfl,rfl⟩,rfl⟩,rfl⟩,rfl⟩,rfl⟩,rfl⟩,rfl⟩,rfl⟩,rfl⟩,rfl⟩,rfl⟩:=h
 obtain⟨b,rfl⟩:=V5 hb
 exact⟨⟨a,b_,c,d,e,f,g,h_,i,j,b⟩,J⟩
theorem V4 {xs:List T} (h:NF.Q xs): ∃a,xs=AH a:=by
 simp only[NF,Sh.Q,QL]at h
 obtain⟨_,_,⟨a,rfl⟩,⟨_,_,⟨b,rfl⟩,⟨_,_,⟨c,rfl⟩,⟨_,_,⟨d,rfl⟩,⟨_,_,⟨e,rfl⟩,⟨_,_,⟨ess,hs,rfl⟩,rfl,rfl⟩,rfl⟩,rfl⟩,rfl⟩,rfl⟩,rfl⟩:=h
 obtain⟨l,rfl⟩:=JD (f:=AK) fun y hy=>Aa9 (hs y hy)
 exact⟨⟨a,b,c,d,e,l⟩,J⟩
theorem V3 {xs:List T} (h:NE.Q xs): ∃a,xs=AN a:=by
 simp only[NE,Sh.Q,QL]at h
 obtain⟨_,_,⟨a,rfl⟩,⟨_,_,⟨b,rfl⟩,⟨_,_,⟨ess,hs,rfl⟩,rfl,rfl⟩,rfl⟩,rfl⟩:=h
 obtain⟨l,rfl⟩:=JD (f:=QV) fun y hy=>by
  obtain⟨n,rfl⟩:=hs y hy
  exact⟨n,J⟩
 exact⟨⟨a,b,l⟩,J⟩
end Go.Proofs.YthjoclecnacdiaaGreatDoor
