/- Lemmas toward the law; each names its conditions. -/
import Derived.Test.YtppffhlbcgpgdaaGreatDoorRows
import Derived.ChangeSame
import Derived.ChangeVars
import Derived.RowKit
import Derived.LaidLaws
import Derived.LaidMore
import Derived.LaidHandle
import Derived.Stop.Joined
import Derived.OpenShut
import Derived.Test.YtppffhlbcgpgdaaGreatDoorYVn
import Derived.Test.YtppffhlbcgpgdaaGreatDoorYGb1
import Derived.Test.YtppffhlbcgpgdaaGreatDoorYGb4
import Derived.Test.YtppffhlbcgpgdaaGreatDoorTie
import Derived.SevenTiedAt
set_option linter.all false
namespace Go.Am
section
variable {H:Type} {enc:TypeId×Value->H} {P:Program} {w:World} {hd:Bool}
theorem VI {α β:Type} {f:α->Option β}: ∀{l:List α} {r:List β},l.mapM f=some r->r.length=l.length/\ ∀(i:Nat) a,l[i]?=some a-> ∃b,r[i]?=some b/\f a=some b
 |[],r,h=>by simp at h;subst h;simp
 |a::l,r,h=>by
  rw[List.mapM_cons]at h
  cases ha:f a with
  |none=>rw[ha]at h;simp at h
  |some b=>
   rw[ha]at h
   cases hl:l.mapM f with
   |none=>rw[hl]at h;simp at h
   |some s=>
    rw[hl]at h;simp at h;subst h;obtain⟨h1,h2⟩:=VI hl;refine⟨by simp[h1],λi x hx=>?_⟩
    cases i with
    |zero=>simp at hx;subst hx;exact⟨b,Y,ha⟩
    |succ i=>simp at hx;simpa using h2 i x hx
theorem A9g {base:Nat} {a:Addr} {n:Nat} {cs:List Value} (h:w.cells? base a n=some cs):cs.length=n/\ ∀i,i<n->w.cell? (a.add i)=cs[i]?:=by
 unfold World.cells? at h;split at h
 ·obtain⟨h1,h2⟩:=VI h;refine⟨by simpa using h1,λi hi=>?_⟩;obtain⟨b,hb,hc⟩:=h2 i i (by simp[hi]);rw[hb,hc]
 ·cases h
theorem A9t {e:Sh} {f:Nat->Option (List Value)}: ∀(n:Nat),(∀i,i<n-> ∃cs xs,f i=some cs/\e.Q xs/\Ah7 w cs xs)-> ∃ess:List (List T),ess.length=n/\(∀y∈ess,e.Q y)/\ ∀i xs,ess[i]?=some xs-> ∃cs,f i=some cs/\Ah7 w cs xs
 |0,_=>⟨[],Y,Ac,Ac⟩
 |n+1,h=>by
  obtain⟨ess,h1,h2,h3⟩:=A9t n (λi hi=>h i Aa);obtain⟨cs,xs,q1,q2,q3⟩:=h n Aa;refine⟨ess++[xs],by simp[h1],?_,λi ys hy=>?_⟩
  ·intro y hy;rcases A25.1 hy with h'|h'
   ·exact h2 y h'
   ·simp at h';subst h';exact q2
  ·by_cases c:i<ess.length
   ·rw[Abh c]at hy;exact h3 i ys hy
   ·rw[Aez Aa]at hy
    have:i-ess.length=0:=by
     rcases A8t (i-ess.length)with h'|h'
     ·exact h'
     ·rw[A5w (by simp;omega)]at hy;cases hy
    rw[this]at hy;simp at hy;subst hy;have hi:i=n:=Aa;subst hi;exact⟨cs,q1,q3⟩
theorem VJ {sz:Nat} (aN:0<sz): ∀{ess:List (List T)},(∀y∈ess,y.length=sz)-> ∀(k:Nat) x,ess.flatten[k]?=some x-> ∃xs,ess[k/sz]?=some xs/\xs[k % sz]?=some x
 |[],_,k,x,h=>by simp at h
 |a::r,hl,k,x,h=>by
  have ha:=hl a Ac;rw[A5g]at h;by_cases c:k<sz
  ·rw[Abh Aa]at h;rw[Nat.div_eq_of_lt c,Nat.mod_eq_of_lt c];exact⟨a,Y,h⟩
  ·rw[Aez Aa,ha]at h;obtain⟨xs,h1,h2⟩:=VJ aN (λy hy=>hl y (by simp[hy])) (k-sz) x h;have e1:k/sz=(k-sz)/sz+1:=by rw[Nat.div_eq_sub_div aN Aa]
   have e2:k % sz=(k-sz) % sz:=by rw[Nat.mod_eq_sub_mod Aa]
   exact⟨xs,by rw[e1];simpa using h1,by rw[e2];exact h2⟩
theorem A9e: ∀(fuel:Nat) (t:TypeId) (s:Sh) (cs:List Value) (x:DataW H×List MemPlace),Atx P t s=true->DataW.trod enc P w 0 (λ_=>true) hd fuel t cs=some x-> ∃xs,s.Q xs/\Ah7 w cs xs:=by
 intro fuel
 induction fuel with
 |zero=>intro t s cs x _ h;simp[DataW.trod]at h
 |succ fuel ih=>
  have fields: ∀(fs:List Sh) (gs:List Field) (o:Nat) (cs:List Value) (ys:List (DataW H×List MemPlace)),Ast P o gs fs=true->(gs.mapM λf=>DataW.trod enc P w 0 (λ_=>true) hd fuel f.type ((cs.drop f.offset).take (P.cellsOf f.type)))=some ys->cs.length=o+Un fs->
    ∃xs,QL fs xs/\Ah7 w (cs.drop o) xs:=by
   intro fs
   induction fs with
   |nil=>
    intro gs o cs ys hs _ hl;refine⟨[],by simp[QL],?_⟩;simp only[Un]at hl;rw[A6n Aa];exact⟨Y,λi v x hv=>by simp at hv⟩
   |cons f fs ihf=>
    intro gs o cs ys hs hm hl
    cases gs with
    |nil=>simp[Ast]at hs
    |cons g gs=>
     simp only[Ast,Qp]at hs;obtain⟨h1,h2,h3,h4⟩:=hs;have h1:=A4f h1;have h2:=A4f h2;rw[List.mapM_cons]at hm
     cases ha:DataW.trod enc P w 0 (λ_=>true) hd fuel g.type ((cs.drop g.offset).take (P.cellsOf g.type))with
     |none=>rw[ha]at hm;simp at hm
     |some y=>
      rw[ha]at hm
      cases hr:gs.mapM (λf=>DataW.trod enc P w 0 (λ_=>true) hd fuel f.type ((cs.drop f.offset).take (P.cellsOf f.type)))with
      |none=>rw[hr]at hm;simp at hm
      |some yr=>
       obtain⟨xs,q1,q2⟩:=ih _ f _ _ h3 ha;simp only[Un]at hl;obtain⟨zs,r1,r2⟩:=ihf gs (o+f.size) cs yr h4 hr Aa;refine⟨xs++zs,⟨xs,zs,q1,r1,Y⟩,?_⟩
       have:cs.drop o=(cs.drop g.offset).take (P.cellsOf g.type)++cs.drop (o+f.size):=by
        rw[h1,h2,<-List.drop_drop,A5j]
       rw[this];exact q2.append r2
  intro t s cs x hs h
  cases s with
  |int k=>
   simp only[Atx]at hs;split at hs
   ·rename_i k' hu;simp at hs;subst hs;simp only[DataW.trod,hu]at h;split at h
    all_goals first
     |(rename_i s8;cases s8;done)
     |(cases h;done)
     |(rename_i s8;cases s8;split at h
       ·rename_i hc;obtain⟨rfl,_⟩:=hc;exact⟨[.int _ _],⟨_,Y⟩,Ah7.one (.int _ _)⟩
       ·cases h)
   ·cases hs
  |bool=>
   simp only[Atx]at hs;split at hs
   ·rename_i hu;simp only[DataW.trod,hu]at h;split at h
    all_goals first
     |(rename_i s8;cases s8;done)
     |(cases h;done)
     |exact⟨[.bool _],⟨_,Y⟩,Ah7.one (.bool _)⟩
   ·cases hs
  |str=>
   simp only[Atx]at hs;split at hs
   ·rename_i hu;simp only[DataW.trod,hu]at h;split at h
    all_goals first
     |(rename_i s8;cases s8;done)
     |(cases h;done)
     |(rename_i s0 s8
       refine⟨[.str s0.data.toList],⟨_,Y⟩,Ah7.one ?_⟩;have:=RelT.str (w:=w) (M:=λ_ _=>False) s0.data.toList
       simpa using this)
   ·cases hs
  |slice e=>
   simp only[Atx]at hs;split at hs
   ·rename_i te hu;simp only[Qp]at hs;obtain⟨h1,h2,h3⟩:=hs;have h1:=A4f h1;have h2:0<e.size:=by simpa[A6i]using h2
    simp only[DataW.trod,hu]at h;split at h
    all_goals first
     |(rename_i s8;cases s8;done)
     |(cases h;done)
     |skip
    ·exact⟨[.slice .any e.size []],⟨[],Ac,Y⟩,Ah7.one (.sliceNil _ _)⟩
    ·rename_i e0 a len cap s8;cases s8;split at h
     ·rename_i hc;obtain⟨_,gC,_⟩:=hc
      cases hm:(List.range len).mapM (λi=>(w.cells? 0 (a.add (i*P.cellsOf te)) (P.cellsOf te)).bind (DataW.trod enc P w 0 (λ_=>true) hd fuel te))with
      |none=>rw[hm]at h;simp at h
      |some elems=>
       obtain⟨m1,m2⟩:=VI hm
       obtain⟨ess,p1,p2,p3⟩:=A9t (w:=w) (e:=e) (f:=λi=>w.cells? 0 (a.add (i*P.cellsOf te)) (P.cellsOf te)) len (λi hi=>by
        obtain⟨b,hb,hc⟩:=m2 i i (by simp[hi])
        cases hq:w.cells? 0 (a.add (i*P.cellsOf te)) (P.cellsOf te)with
        |none=>rw[hq]at hc;simp at hc
        |some cs0=>
         rw[hq]at hc;obtain⟨xs,q1,q2⟩:=ih te e cs0 b h3 hc
         exact⟨cs0,xs,Y,q1,q2⟩)
       refine⟨[.slice .any e.size ess],⟨ess,p2,Y⟩,Ah7.one ?_⟩;have aN: ∀y∈ess,y.length=e.size:=λy hy=>Atb e (p2 y hy)
       have spotOf: ∀i,(∃y,(w.cells? 0 (a.add (i*P.cellsOf te)) (P.cellsOf te)).bind (DataW.trod enc P w 0 (λ_=>true) hd fuel te)=some y)->i=0->a.spot=none:=by
        rintro i ⟨y,hy⟩ rfl
        cases hq:w.cells? 0 (a.add (0*P.cellsOf te)) (P.cellsOf te)with
        |none=>rw[hq]at hy;simp at hy
        |some cs0=>
         obtain⟨c1,c2⟩:=A9g hq;have c3:=c2 0 Aa;rw[Kv Aa]at c3;obtain⟨ab,ao,asp⟩:=a
         cases asp with
         |none=>rfl
         |some z=>
          simp only[Nat.zero_mul,Addr.add]at c3;simp[World.cell?]at c3;split at c3<;>simp at c3
       by_cases iQ:len=0
       ·subst iQ;have:ess=[]:=Aq1 p1;subst this;by_cases mF:cap=0
        ·subst mF;exact .sliceZ a _ _ Ac
        ·have n5:a.spot=none:=by
          rw[hm]at h;simp only[Option.bind_some,Xs]at h
          cases hr:(List.range (cap-0)).mapM (λj=>(w.cells? 0 (a.add ((0+j)*P.cellsOf te)) (P.cellsOf te)).bind (DataW.trod enc P w 0 (λ_=>true) hd fuel te))with
          |none=>rw[hr]at h;simp at h
          |some aD=>
           obtain⟨_,r2⟩:=VI hr;obtain⟨y,_,hy⟩:=r2 0 0 (by rw[A7e Aa]);exact spotOf 0 ⟨y,by simpa using hy⟩ Y
         obtain⟨ab,ao,asp⟩:=a;simp only at n5;subst n5;exact EA Y gC (λh=>by cases h) Ac Ac Ac
       ·have n5:a.spot=none:=by
         obtain⟨y,_,hy⟩:=m2 0 0 (by rw[A7e Aa]);exact spotOf 0 ⟨y,hy⟩ Y
        obtain⟨ab,ao,asp⟩:=a;simp only at n5;subst n5;refine EA p1 gC (λh=>by cases h) Ac aN (λk x hx=>?_);obtain⟨xs,q1,q2⟩:=VJ h2 aN k x hx;obtain⟨cs0,q3,q4⟩:=p3 _ _ q1;obtain⟨c1,c2⟩:=A9g q3;have aC:k % e.size<P.cellsOf te:=by rw[h1];exact Nat.mod_lt _ h2
        have c3:=c2 (k % e.size) aC;have hv:cs0[k % e.size]?=some (cs0[k % e.size]' Aa):=Kv _;refine⟨λh=>h,Ata e (p2 _ (Apj q1)) x (Apj q2),_,?_,q4.2 _ _ _ hv q2⟩;rw[<-hv,<-c3,BS,BS,h1];congr 2;have:=Nat.div_add_mod k e.size;rw[Nat.mul_comm]at this;omega
     ·cases h
   ·cases hs
  |struct fs=>
   simp only[Atx]at hs;split at hs
   ·rename_i gs hu;simp only[Qp]at hs;obtain⟨h1,h2⟩:=hs;have h1:=A4f h1;simp only[DataW.trod,hu]at h;split at h
    ·rename_i hl
     cases hm:gs.toList.mapM (λf=>DataW.trod enc P w 0 (λ_=>true) hd fuel f.type ((cs.drop f.offset).take (P.cellsOf f.type)))with
     |none=>rw[hm]at h;simp at h
     |some ys=>
      obtain⟨xs,q1,q2⟩:=fields fs gs.toList 0 cs ys h2 hm (by rw[hl,h1];simp);exact⟨xs,q1,by simpa using q2⟩
    ·cases h
   ·cases hs
  |intB k=>
   simp only[Atx]at hs;split at hs
   ·rename_i k' hu;simp at hs;subst hs;simp only[DataW.trod,hu]at h;split at h
    all_goals first
     |(rename_i s8;cases s8;done)
     |(cases h;done)
     |(rename_i s8;cases s8;split at h
       ·rename_i hc;obtain⟨rfl,hw⟩:=hc;exact⟨[.int _ _],⟨_,hw,Y⟩,Ah7.one (.int _ _)⟩
       ·cases h)
   ·cases hs
  |arr n e=>
   simp only[Atx]at hs;split at hs
   ·rename_i m te hu;simp only[Qp]at hs;obtain⟨h1,h2,h3,h4,h5⟩:=hs;have h1:=A4f h1;subst h1;have h2:=A4f h2;have h3:0<e.size:=by simpa[A6i]using h3
    have h4:=A4f h4;simp only[DataW.trod,hu]at h;split at h
    ·rename_i hl
     cases hm:(List.range m).mapM (λi=>DataW.trod enc P w 0 (λ_=>true) hd fuel te ((cs.drop (i*P.cellsOf te)).take (P.cellsOf te)))with
     |none=>rw[hm]at h;simp at h
     |some ys=>
      obtain⟨m1,m2⟩:=VI hm
      obtain⟨ess,p1,p2,p3⟩:=A9t (w:=w) (e:=e) (f:=λi=>some ((cs.drop (i*P.cellsOf te)).take (P.cellsOf te))) m (λi hi=>by
       obtain⟨b,hb,hc⟩:=m2 i i (by simp[hi]);obtain⟨xs,q1,q2⟩:=ih te e _ b h5 hc
       exact⟨_,xs,Y,q1,q2⟩)
      have aN: ∀y∈ess,y.length=e.size:=λy hy=>Atb e (p2 y hy);refine⟨ess.flatten,⟨ess,p1,p2,Y⟩,?_,λk v x hv hx=>?_⟩
      ·rw[YB aN,hl,h4,p1]
      ·obtain⟨xs,q1,q2⟩:=VJ h3 aN k x hx;obtain⟨cs0,q3,q4⟩:=p3 _ _ q1;obtain rfl:=Option.some.inj q3;refine q4.2 (k % e.size) v x ?_ q2;have aC:k % e.size<e.size:=Nat.mod_lt _ h3;rw[h2,List.getElem?_take_of_lt aC,A4z];rw[show k/e.size*e.size+k % e.size=k from by have:=Nat.div_add_mod k e.size;rw[Nat.mul_comm]at this;omega];exact hv
    ·cases h
   ·cases hs
end
end Go.Am
namespace Go.Proofs.YtppffhlbcgpgdaaGreatDoor
open Go.Am Go.ChangeShapes Go.WideShapes Go.RowKit
set_option maxRecDepth 100000
def A9y:Sh:=.struct [.str,.str]
def A9h:Sh:=.struct [.int .i64,.int .i64,.int .i64,.bool,.slice A9y]
theorem A9l {α:Type} {f:α->List T}: ∀{ess:List (List T)},(∀y∈ess,∃a,y=f a)-> ∃l:List α,ess=l.map f
 |[],_=>⟨[],Y⟩
 |y::r,h=>by
  obtain⟨a,rfl⟩:=h _ (List.mem_cons_self ..);obtain⟨l,rfl⟩:=A9l (f:=f) (ess:=r) λy hy=>h y (by simp[hy]);exact⟨a::l,Y⟩
theorem A99 {xs:List T} (h:A9y.Q xs): ∃r,xs=AX r:=by
 simp only[A9y,Sh.Q,QL]at h;obtain⟨_,_,⟨a,rfl⟩,⟨_,_,⟨b,rfl⟩,rfl,rfl⟩,rfl⟩:=h;exact⟨⟨a,b⟩,Y⟩
theorem A90 {xs:List T} (h:A9h.Q xs): ∃b,xs=Ak b:=by
 simp only[A9h,Sh.Q,QL]at h;obtain⟨_,_,⟨a,rfl⟩,⟨_,_,⟨b,rfl⟩,⟨_,_,⟨c,rfl⟩,⟨_,_,⟨d,rfl⟩,⟨_,_,⟨ess,hs,rfl⟩,rfl,rfl⟩,rfl⟩,rfl⟩,rfl⟩,rfl⟩:=h;obtain⟨l,rfl⟩:=A9l (f:=AX) λy hy=>A99 (hs y hy);exact⟨⟨a,b,c,d,l⟩,Y⟩
theorem A98:ownKnob Tryz.prog.godebug=none:=Ab
theorem Baa:Tryz.prog.globalNamed "errors.errorType" =some 0:=Ab
theorem A93:Tryz.prog.types.size=496:=Ab
theorem A9x:((List.range 496).filter λt=>Tryz.prog.rowNamed t [101,114,114,111,114])=[98]:=Ab
def VK:List (String×DataW Unit):=Rows.planKeepsRow.laid
theorem A9a {W:World} (h:laidMetH Tryz.prog VK W):W.cell? ⟨0,0,none⟩=some (.iface 233 (.agg #[.pointer (some ⟨4,98,none⟩)])):=by
 have h':laidMet Tryz.prog (VK.filter λx=>x.2.handleName?.isNone) W/\handlesMet Tryz.prog [("errors.errorType",Rows.laid_errors_errorType)] W:=h;obtain⟨name,u,ty,e1,e2,e3,e4,e5⟩:=h'.2 _ (A4h.2 Y);have en:name=[101,114,114,111,114]:=(Option.some.inj e1).symm;subst en;have eu:(some 233:Option TypeId)=some u:=by rw[<-e2];kernel_rfl
 obtain rfl:=Option.some.inj eu;have hm:ty∈(List.range 496).filter λt=>Tryz.prog.rowNamed t [101,114,114,111,114]:=A6c.2 ⟨A7z.2 (by rw[<-A93];exact e3),e4⟩;rw[A9x]at hm;obtain rfl:=A4h.1 hm;have hh:typeHandle Tryz.prog 98=.pointer (some ⟨4,98,none⟩):=Ab;rw[hh]at e5
 simpa using World.var?_cell Baa e5 0
noncomputable def A9f (os:Go.Os):World:=World.doorLaid Tryz.prog 600 os
theorem A9d (os:Go.Os) (args:Array Value):laidMetH Tryz.prog VK ((A9f os).forCall (λ_ _=>0) ⟨#[],args,[]⟩).memory:=
 laidMetH_of_parts (laidMet_of_run' 8 Ab Ab) Ab
theorem A94:Kids Tryz.prog (· <Tryz.prog.types.size):=kids_rows Ab Ab
theorem A95: ∀t e,t<Tryz.prog.types.size->Tryz.prog.underlying t=some (.slice e)->0<Tryz.prog.cellsOf e:=slices_full_of Tryz.prog Ab
def g00:G:={β:=λ_=>none,own:=λ_=>False,oth:=λ_ _=>False,sp:=λ_=>none,bx:=λ_=>False,lo:=0}
theorem A97 (b o:Nat): ¬g00.M b o:=λh=>h.elim (λx=>x.1) (λx=>x)
theorem A92 {W:World} (h:W.cell? ⟨0,0,none⟩=some (.iface 233 (.agg #[.pointer (some ⟨4,98,none⟩)]))):Go.Am.Inv W g00 []:=
 ⟨λb B h=>by simp[Go.Am.look]at h,λb=>by simp[Go.Am.look,g00],λb b' aA h=>by simp[g00]at h,λaA h=>h.elim (λx=>x.elim) (λ⟨_,x⟩=>x.elim),λb h=>h.elim,λaA o h=>h.elim,
  λp hp=>by simp only[Tf,A4h]at hp;subst hp;exact⟨A97 _ _,h⟩,A5t _,.empty (λ_ _ h=>by cases h) (λ_=>rfl)⟩
theorem A9n {W:World} {v:Value} {x:T} (h:RelT W (λ_ _=>False) v x):RelT W g00.M v x:=h.mono λb o u _ h2=>⟨A97 b o,h2⟩
theorem A9k {W:World} {base:Nat} {t e:TypeId} {v:Value} (hu:Tryz.prog.underlying t=some (.slice e)) (h:Value.okWide Tryz.prog W .any base t v):v.cells.toList=[v]:=by
 cases v<;>simp[Value.okWide,hu,Cell.okWide,Cell.ok]at h<;>simp[Value.cells]
theorem A9s {W:World} {v:Value} {x:T} (h1:v.cells.toList=[v]) (h:Ah7 W v.cells.toList [x]):Rel W g00 v (.t x):=by
 rw[h1]at h;exact .t _ _ (A9n (h.2 0 v x Y Y))
theorem A9r {H:Type} {enc:TypeId×Value->H} {w w':World} {spare:Nat->Bool}: ∀{ts:List TypeId} {vs:List Value} {ds:List (DataW H)} {ps:List MemPlace},DataW.TrodAll enc Tryz.prog w 0 spare true ts vs ds ps->(∀p∈ps,w.sameAt w' p)->DataW.TrodAll enc Tryz.prog w' 0 spare true ts vs ds ps
 |[],[],[],_,h,_=>h
 |_::_,_::_,_::_,_,⟨p,q,⟨n,hn⟩,h2,e⟩,hs=>⟨p,q,⟨n,DataW.trod_carry n _ _ _ hn (λx hx=>hs x (by rw[e];exact List.mem_append_left _ hx))⟩,A9r h2 (λx hx=>hs x (by rw[e];exact List.mem_append_right _ hx)),e⟩
theorem A9m {W w':World} {g':G} (hx:Ext W g00 w' g') {p:MemPlace} (hp:p.block<W.heap.size):W.sameAt w' p:=by
 have hk: ∀aA,aA<W.heap.size->w'.heap[aA]?=W.heap[aA]?:=λaA hb=>hx.keep aA hb (λh=>h)
 cases p with
 |cell b off=>exact Ch (hk b hp) off none
 |map b=>exact hk b hp
theorem A9q {W w':World} {g':G} (hx:Ext W g00 w' g') (may:MemPlace->Prop):W.keptBut w' may:=by
 refine⟨hx.lo.2.1,hx.lo.2.2,λi hi=>?_⟩;rw[hx.keep i hi (λh=>h)];split
 ·rename_i h1 h2;rw[h1]at h2;cases h2;exact⟨Y,Y,Y,λ_ _=>rfl⟩
 ·rename_i h1 h2;rw[h1]at h2;cases h2;exact .inr ⟨Y,Y⟩
 ·rfl
theorem A9b {W:World} {base:Nat} {t:TypeId} {fs:Array Field} {v:Value} {xs:List T} (hu:Tryz.prog.underlying t=some (.struct fs)) (h:Value.okWide Tryz.prog W .any base t v) (hr:Ah7 W v.cells.toList xs):Rel W g00 v (.agg (Af xs)):=by
 unfold Value.okWide at h;rw[hu]at h;obtain⟨cs,rfl,_,_⟩:=h;have hc:(Value.agg cs).cells.toList=cs.toList:=rfl;rw[hc]at hr;have:Value.agg cs=Value.agg cs.toList.toArray:=Ac;rw[this];refine .agg cs.toList (Af xs) (by rw[Bz];exact hr.1) λi v x hv hx=>?_;rw[CK]at hx
 cases hxi:xs[i]? with
 |none=>simp[hxi]at hx
 |some y=>
  simp[hxi]at hx;subst hx;exact .t _ _ (A9n (hr.2 i v y hv hxi))
def A9v:Sh:=.struct [.int .i8,.int .i64,.int .i64,.int .i64,.int .i64,.int .i64,.int .i64,.int .i64,.int .i64,.bool,A9h]
theorem A96 {xs:List T} (h:A9v.Q xs): ∃a,xs=A7 a:=by
 simp only[A9v,Sh.Q,QL]at h;obtain⟨_,_,⟨a,rfl⟩,⟨_,_,⟨b_,rfl⟩,⟨_,_,⟨c,rfl⟩,⟨_,_,⟨d,rfl⟩,⟨_,_,⟨e,rfl⟩,⟨_,_,⟨f,rfl⟩,⟨_,_,⟨g,rfl⟩,⟨_,_,⟨h_,rfl⟩,⟨_,_,⟨i,rfl⟩,⟨_,_,⟨j,rfl⟩,⟨_,_,hb,rfl,rfl⟩,rfl⟩,rfl⟩,rfl⟩,rfl⟩,rfl⟩,rfl⟩,rfl⟩,rfl⟩,rfl⟩,rfl⟩:=h;obtain⟨b,rfl⟩:=A90 hb;exact⟨⟨a,b_,c,d,e,f,g,h_,i,j,b⟩,Y⟩
theorem A9j:Atx Tryz.prog 22 (.slice A9v)=true:=Ab
theorem A9i:Atx Tryz.prog 28 A9v=true:=Ab
theorem A88 (os:Go.Os) (started:os.Started) (H:Type) (enc:TypeId×Value->H):
  ReturnsInHanded {} Tryz.checked os 5 .any (λw args=>(Rows.planBothSpec.pre enc Tryz.prog Tryz.f5 [] false w args/\laidMetH Tryz.prog VK w)/\sizedMet enc Tryz.prog Tryz.f5 (OpenSpec.ofChange Rows.planBothSpec) false w args)
   (Rows.planBothSpec.post enc Tryz.prog Tryz.f5 false true false false):=by
 refine returnsInHanded_of_change_and (C:=Tryz.checked) (X:=λw _=>laidMetH Tryz.prog VK w) (λ_ _ _ hh h=>h.of_heap hh) A98 started Ab Tryz.func5
  (ChangeSpec.witness_at (enc:=enc) (C:=Tryz.checked) (os:=os) (X:=λw _=>laidMetH Tryz.prog VK w) false (A9f os) #[.slice none 0 0,.agg #[.int .i8 0,.int .i64 0,.int .i64 0,.int .i64 0,.int .i64 0,.int .i64 0,.int .i64 0,.int .i64 0,.int .i64 0,.bool false,.int .i64 0,.int .i64 0,.int .i64 0,.bool false,.slice none 0 0]] 8 Y Ab Ab Ab Ab Ab (A9d os _)) ?_
 intro W base args ds gs before hval0 hW _ _ hL _;have fG: ∀(j:Nat) t v,Tryz.f5.params[j]?=some t->args[j]?=some v->Value.okWide Tryz.prog W .any base t v:=hval0;have hW':=hW;obtain⟨p,q,hA0,hV0,rfl,dV,gI⟩:=hW;have hA:DataW.TrodAll enc Tryz.prog W 0 (λ_=>true) true Tryz.f5.params.toList args.toList ds p:=hA0;have hV:DataW.TrodVars enc Tryz.prog W (λ_=>true) [] gs q:=hV0;have hA1:=hA;rw[Tryz.params5]at hA fG;obtain⟨v0,v1,d0,d1,p0,p1,rfl,rfl,rfl,⟨n0,h0⟩,⟨n1,h1⟩⟩:=trodAll_two hA;obtain⟨rfl,rfl⟩:=trodVars_none hV;have o0:=A9k Tryz.underlying22 (fG 0 _ v0 Y Y);obtain⟨xs0,q0,r0⟩:=A9e _ _ _ _ _ A9j h0;simp only[Sh.Q]at q0;obtain⟨ess0,hess0,rfl⟩:=q0;obtain⟨l,rfl⟩:=A9l (f:=A7) λy hy=>A96 (hess0 y hy);obtain⟨xs1,q1,r1⟩:=A9e _ _ _ _ _ A9i h1;obtain⟨r,rfl⟩:=A96 q1
 have hc:=(Qg l r).2 [v0,v1] W g00 ⟨Y,λi v x hv hx=>by
  match i with
  |0=>simp at hv hx;subst hv;subst hx;exact A9s o0 r0
  |1=>simp at hv hx;subst hv;subst hx;exact A9b Tryz.underlying28 (fG 1 _ _ Y Y) r1
  |i+2=>simp at hv⟩ (A92 (A9a hL))
 refine Calls.mono hc λe w'=>?_;rintro⟨v,g',rfl,hx,hv,_⟩;have hvt:=Gm hv;subst hvt;have e1:Rows.planBothSpec.fn H ([d0,d1]++[])={results:=[.lit (.bool true)],args:=[d0,d1]}:=by simp[Rows.planBothSpec]
 have aC: ∀x∈p0++p1,x.block<W.heap.size:=λx hx=>hW'.lt x (by simpa using hx);refine⟨_,Y,_,_,_,[],p0++p1,[],hW',?_,?_,?_,A9q hx _,λh=>by cases h⟩
 ·rw[e1];exact trodAll_mk1 (shut_bool Tryz.underlying4 true)
 ·rw[e1];exact A9r (DataW.TrodAll.respare A94 A95 (by rw[Tryz.params5];decide) hA1 (λx hx=>by simpa using aC x hx)) (λx hxp=>A9m hx (aC x hxp))
 ·rw[e1];rfl
theorem A89:Rows.PlanBothSaid:=
 OpenClaim.holds_of_wide 5 Tryz.f5 Y Y Y Y Y Y Y ⟨Y,Y,Y,Y,Y⟩ Y Y Y Y Y A9p Tryz.func5 A9w
  (A5c Ab) (by unfold Func.isWrapper;rw[Ug (of_decide_eq_false Ab)];exact⟨Y,Y⟩)
  (λos started H enc _=>A88 os started H enc)
theorem planBoth_card:Rows.PlanBothCardSaid:=
 Claim7.holds_tied_plain_at .later [] [.handle] true _ true
  A89 (λ_ h=>by cases h) Ab (λ_ h=>by cases h) planBoth_row_tie rfl ⟨rfl,rfl⟩ Ab rfl
  (λf fn hf kH=>by
   obtain rfl:f=5:=Option.some.inj ((show Tryz.prog.funcNamed Rows.planBothRow.func=some 5 from A9p).symm.trans hf)|>.symm
   obtain rfl:fn=Tryz.f5:=(Option.some.inj (Tryz.func5.symm.trans kH)).symm
   exact⟨Ab,λj t ht=>by
    rw[Tryz.params5]at ht;have hm:t∈[22,28]:=by simpa using Array.mem_of_getElem? ht
    have aI:([22,28].all λu=> !Tryz.prog.wantsStandIn u)=true:=Ab
    exact(show Tryz.prog.wantsStandIn t=false by simpa using A21.1 aI t hm)⟩)
  A91
#print axioms planBoth_card
