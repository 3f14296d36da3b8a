/- The general texts of the abstract machine, joined: Am13, Amm, Am14, Am15, Am16, Am17, Am18, Am19, Am20. -/
import Derived.Test.YtppffhlbcgpgdaaGreatDoorYM1
import Derived.Laws.MakeOwn
import Derived.LoopN
import Derived.Tactics
import Derived.Laws.IdiomStrings
set_option linter.all false
namespace Go.Am
section
variable {P:Program} {te:TE} {w w':World} {g:G} {σ:St}
theorem NA (hi:Inv w g σ) {lab aA:Nat} (hl:look σ lab=none) (eP:g.own aA) (eU:g.sp aA=none) (cH: ∀c,g.β c≠some (some aA)) {vs vs':Array Value} {e:TypeId} (hh:w.heap[aA]?=some (.cells vs e (0,0)))
  (hs:vs'.size=vs.size) (hw:Sets w w' aA vs' e) {B:Blk} (hB:(∀v x,Rel w g v x->Rel w' (g.with lab (some aA)) v x)->Fh w' (g.with lab (some aA)) lab B):
  Ext w g w' (g.with lab (some aA))/\Inv w' (g.with lab (some aA)) ((lab,B)::σ)/\(∀v x,Rel w g v x->Rel w' (g.with lab (some aA)) v x):=by
 have hn:=hi.none hl
 have gX: ∀b,g.bx b->b≠lab:=by
  intro b hb e;subst e;obtain⟨cs,h⟩:=(hi.bx _ hb).2;rw[hl]at h;cases h
 have eN: ∀c p,w.shape? c=some p->w'.shape? c=some p:=by
  intro c p hp;by_cases e':c=aA
  ·subst e';simp only[World.shape?,hh]at hp;simp only[World.shape?,hw.new,hs];exact hp
  ·rw[GP (hw.old c e')];exact hp
 have fJ: ∀c,(g.with lab (some aA)).own c->g.own c:=by
  rintro c (h|h)
  ·exact h
  ·simp at h;subst h;exact eP
 have aG:Ext w g w' (g.with lab (some aA)):=⟨by rw[hw.size];omega,λc _ hc=>hw.old c (λe'=>hc (e'▸eP)),λc _ h=>fJ c h,λ_ _=>A6h,eN,λb hb=>⟨hb,by simp[G.with,gX b hb]⟩,⟨Y,hw.same⟩,Hu (λ_ _ _ _ h=>h) (λc e _ _ h=>hw.old c (λe'=>by subst e';rw[eU]at h;cases h))⟩
 have hr: ∀v x,Rel w g v x->Rel w' (g.with lab (some aA)) v x:=λv x h=>by
  refine h.mono aG.keeps (λb p hb=>?_) eN;have aE:b≠lab:=by intro e;rw[e,hn]at hb;cases hb
  simp[G.with,aE,hb]
 refine⟨aG,⟨?_,?_,?_,?_,λb hb=>⟨(hi.bx b hb).1,by rw[Ap,Ug (A6f (gX b hb))];exact(hi.bx b hb).2⟩,λc o hc=>hi.dis c o (fJ c hc),hi.im_of aG.keeps,(by have:=hi.lo;rw[hw.size];exact this),hi.sx.mono (by rw[hw.size];exact WW _) Y (λ_ _ _ h=>.inl h) (λc e h _ _=>hw.old c (λe'=>by subst e';rw[eU]at h;cases h)) (λc b1 h=>?_) (λb L hL=>?_)⟩,hr⟩
 ·intro b C hC;rw[Ap]at hC;split at hC
  ·rename_i e';subst e';simp at hC;subst hC;exact hB hr
  ·rename_i aE;refine(hi.ok b C hC).mono (by simp[G.with,A6f aE]) (λ_ _ h=>.inl h) (λaX cN=>hw.old _ ?_) hr;intro e';subst e';exact cH _ cN
 ·intro b;rw[Ap];by_cases e':lab=b
  ·subst e';simp[G.with]
  ·simp only[Ug e'];rw[hi.dom b];simp[G.with,A6f e']
 ·intro b b' aX h1 h2;simp only[G.with]at h1 h2;by_cases e1:b=lab<;>by_cases e2:b'=lab
  ·rw[e1,e2]
  ·rw[WU e1]at h1;rw[Ug e2]at h2;simp at h1;subst h1;exact absurd h2 (cH _)
  ·rw[Ug e1]at h1;rw[WU e2]at h2;simp at h2;subst h2;exact absurd h1 (cH _)
  ·rw[Ug e1]at h1;rw[Ug e2]at h2;exact hi.inj _ _ _ h1 h2
 ·rintro c (h|h)
  ·rw[hw.size];exact hi.lt c (.inl (fJ c h))
  ·rw[hw.size];exact hi.lt c (.inr h)
 ·simp only[G.with]at h;split at h
  ·simp at h;subst h;exact .inr eU
  ·exact .inl ⟨c,h⟩
 ·rw[Ap]at hL;split at hL
  ·rename_i e';subst e';simp at hL;subst hL;have h1:(g.with lab (some aA)).β lab=some none:=hB hr;simp[G.with]at h1
  ·exact hL
theorem XV (hi:Inv w g σ) {sz:Nat} {x:AV} {v:Value} {news:List (List T)} (hx:Rel w g v x) (h:Jb σ sz x=some news):
  ((v=.slice none 0 0\/ ∃a,v=.slice (some a) 0 0)/\news=[])\/ ∃b off cap,v=.slice (some ⟨b,off,none⟩) news.length cap/\(∀e∈news,e.length=sz)/\
   ∀(i:Nat) y,news.flatten[i]?=some y->CV y=true/\ ∃u,w.cell? ⟨b,off+i,none⟩=some u/\RelT w g.M u y:=by
 unfold Jb at h;split at h
 ·rename_i m cO es;split at h
  ·rename_i aN;simp at h;subst h;subst aN;rcases C5 (Av hx)with⟨h1,h2⟩|⟨b,off,cap,h1,_,_,_,aI,hc⟩|⟨a,h1,h2,_⟩
   ·exact .inl ⟨.inl h1,h2⟩
   ·exact .inr ⟨b,off,cap,h1,aI,λi y hy=>(hc i y hy).2⟩
   ·exact .inl ⟨.inr ⟨a,h1⟩,h2⟩
  ·split at h
   ·simp at h;subst h;rcases C5 (Av hx)with⟨h1,_⟩|⟨b,off,cap,h1,_⟩|⟨a,h1,_⟩
    ·exact .inl ⟨.inl h1,Y⟩
    ·exact .inr ⟨b,off,cap,h1,Ac,Ac⟩
    ·exact .inl ⟨.inr ⟨a,h1⟩,Y⟩
   ·simp at h
 ·rename_i b cO lo len;split at h
  ·rename_i sz'' es hs;split at h
   ·rename_i h1;split at h
    ·rename_i h2;split at h
     ·rename_i cJ;simp at h;subst h;subst h1;subst h2;have aO:((es.drop lo).take len).length=len:=by simp;omega
      cases hx with
      |rowNil _ _ a0 jN _=>
       cases a0 with
       |none=>exact .inl ⟨.inl Y,Ac⟩
       |some x=>exact .inl ⟨.inr ⟨x,Y⟩,Ac⟩
      |row _ _ _ _ aA o cap e n hb hsh ho hl hn=>
       refine .inr ⟨aA,o,cap,by rw[aO],?_,?_⟩
       ·obtain⟨aI,_⟩:=hi.ok b _ hs;intro e he;exact aI e (A6k (A3c he))
       ·intro i y hy;obtain⟨aI,bA⟩:=hi.ok b _ hs;rcases bA with⟨iO,_⟩|⟨aX,vs,e',k1,k2,k3,k4,k5⟩
        ·rw[iO]at hb;cases hb
        ·rw[k1]at hb;cases hb;have gO:=Bu hy
         have aE:len≠0:=by
          intro h0;subst h0;simp at gO
         have dE:o=lo*sz:=by rcases ho with h'|h'<;>omega
         have eK:=Do sz es aI lo len i y hy;have aC:=Bu eK
         obtain⟨v,hv⟩: ∃v,vs[lo*sz+i]?=some v:=⟨vs[lo*sz+i]' Aa,A23 _⟩
         have:=k5 _ v y hv eK;exact⟨this.1,v,by rw[dE,C7 k3];exact hv,this.2⟩
     ·simp at h
    ·simp at h
   ·simp at h
  ·simp at h
 ·simp at h
theorem An7 (t ty e:Nat) (i:TypeInfo) (hi:P.info? e=some i) (ht:P.underlying t=some (.slice e)) (c l:Nat) (b:Option Addr) (hl:l<=c):
  (Builtin.append_ #[t,t] ty #[.slice b l c,.slice none 0 0]).run P w=.ok (.slice b l c) w:=by
 cases b<;>simp[Builtin.append_,A3a ht,sizeOf,typeInfo,hi,Builtin.lenOf,Builtin.firstCells,hl,storeCells]
theorem Zr (t ty e:Nat) (i:TypeInfo) (hi:P.info? e=some i) (ht:P.underlying t=some (.slice e)) (c l c':Nat) (b:Option Addr) (a:Addr) (hl:l<=c):
  (Builtin.append_ #[t,t] ty #[.slice b l c,.slice (some a) 0 c']).run P w=.ok (.slice b l c) w:=by
 cases b<;>simp[Builtin.append_,A3a ht,sizeOf,typeInfo,hi,Builtin.lenOf,Builtin.firstCells,loadCells,loadCellsFrom,hl,storeCells]
theorem Zt (t ty e:Nat) (i:TypeInfo) (ht:P.underlying t=some (.slice e)) (hi:P.info? e=some i)
  (aA bE cG:Nat) (et:Nat) (cur:Array Value) (hg:w.heap[aA]?=some (.cells cur et (0,0)))
  (a:Addr) (m c:Nat) (news:List Value) (hl:news.length=m*i.size) (eX: ∀j u,news[j]?=some u->w.cell? (a.add j)=some u) (h1: ∀u∈news,u.oneCell'=true)
  (bJ:bE+m<=cG) (d8:bE*i.size+news.length<=cur.size):
  (Builtin.append_ #[t,t] ty #[.slice (some ⟨aA,0,none⟩) bE cG,.slice (some a) m c]).run P w=
   .ok (.slice (some ⟨aA,0,none⟩) (bE+m) cG) (w.setRow aA (cur.toList.take (bE*i.size)++news++cur.toList.drop (bE*i.size+news.length)).toArray):=by
 have hf:=run_firstCells_some (P:=P) w i.size m a m c news hl eX;have cL:=A71 P aA (bE*i.size) et news 0 cur w hg (by simpa using d8) h1;simp only[A80]at cL;simp[Builtin.append_,A3a ht,sizeOf,typeInfo,hi,Builtin.lenOf,bJ,hf,Addr.add_lit,cL]
theorem Ext.same_world {g1:G} (h:Ext w g w g1) {v:Value} {x:T} (hr:RelT w g.M v x):RelT w g1.M v x:=hr.mono h.keeps
theorem Oe {g1:G} {σ1:St} {a:Act} {aV:A2} {lab sz cap e:Nat} {es':List (List T)} {arr:Array Value} (hi:Inv w g1 σ1) (hl:look σ1 lab=none) (he:AQ w g1 a aV)
  (hm:More w w' (.cells arr e (0,0))) (aI: ∀e∈es',e.length=sz) (aO:es'.flatten.length<=arr.size) (jL:es'.length<=cap) (aN:cap*sz<=arr.size)
  (aJ: ∀(i:Nat) v y,arr[i]?=some v->es'.flatten[i]?=some y->CV y=true/\RelT w g1.M v y):
  FI w g1 a (.row lab sz 0 es'.length) aV ((lab,.grow sz es')::σ1) (.slice (some ⟨w.heap.size,0,none⟩) es'.length cap) w':=by
 obtain⟨h1,h2,h3⟩:=HS hi hl hm (B:=.grow sz es') (λhr=>⟨aI,.inr ⟨w.heap.size,arr,e,by simp[G.with],.inr Y,hm.new,aO,λi v y hv hy=>
  ⟨(aJ i v y hv hy).1,Av (hr _ _ (.t _ _ (aJ i v y hv hy).2))⟩⟩⟩)
 refine⟨_,h1,?_,h2,he.mono h3⟩;exact .row lab sz 0 _ w.heap.size 0 cap e arr.size (by simp[G.with]) (by simp[World.shape?,hm.new]) (.inl Ac) jL (by simpa using aN)
theorem Dh {n b:Nat} (h:n*(b+1)<=140737488355328):n*b<=140737488355328/\n<=140737488355328:=by
 rw[Nat.mul_add,A62]at h;omega
structure SrcOk (P:Program) (w:World) (t u ty e:Nat) (ux:Value) (m:Nat) (ns:List Value) (ei:TI):Prop where
 same:m=0-> ∀b l c,l<=c->(Builtin.append_ #[t,u] ty #[.slice b l c,ux]).run P w=.ok (.slice b l c) w
 room:m≠0-> ∀aA bE cG et cur,w.heap[aA]?=some (.cells cur et (0,0))->bE+m<=cG->bE*ei.size+ns.length<=cur.size->
  (Builtin.append_ #[t,u] ty #[.slice (some ⟨aA,0,none⟩) bE cG,ux]).run P w=.ok (.slice (some ⟨aA,0,none⟩) (bE+m) cG) (w.setRow aA (cur.toList.take (bE*ei.size)++ns++cur.toList.drop (bE*ei.size+ns.length)).toArray)
 nil:m≠0->m*(ei.bytes+1)<=140737488355328->(Builtin.append_ #[t,u] ty #[.slice none 0 0,ux]).run P w=.ok (.slice (some ⟨w.heap.size,0,none⟩) m (grownCap w m 0 e))
  (w.drew.alloc (.cells (ns.toArray++Builtin.zeroCells (BJ ei).cells (grownCap w m 0 e-m)) e))
 grow:m≠0-> ∀(b:Addr) bE cG (olds:List Value),olds.length=bE*ei.size->(∀j v,olds[j]?=some v->w.cell? (b.add j)=some v)->cG<bE+m->(bE+m)*(ei.bytes+1)<=140737488355328->
  (Builtin.append_ #[t,u] ty #[.slice (some b) bE cG,ux]).run P w=.ok (.slice (some ⟨w.heap.size,0,none⟩) (bE+m) (grownCap w (bE+m) cG e))
   (w.drew.alloc (.cells (olds.toArray++ns.toArray++Builtin.zeroCells (BJ ei).cells (grownCap w (bE+m) cG e-(bE+m))) e))
theorem Zu (aH:Dr P te) {t u ty e:Nat} {ei:TI} (bK:look te e=some ei) {a:Act} {g1:G} {σ1:St} {aV:A2} {lab:Nat} {ux:Value} {news:List (List T)} {ns:List Value} {a0:Option Addr} (jN: ∀x:Addr,a0=some x->True)
  (aG:Ext w g w g1) (dM:Inv w g1 σ1) (cU:look σ1 lab=none) (bM:AQ w g1 a aV) (aW:news.length*(ei.bytes+1)<=140737488355328)
  (cR:SrcOk P w t u ty e ux news.length ns ei) (aI: ∀e∈news,e.length=ei.size) (n1:ns.length=news.flatten.length) (n3: ∀(i:Nat) v y,ns[i]?=some v->news.flatten[i]?=some y->RelT w g.M v y) (aU: ∀(i:Nat) y,news.flatten[i]?=some y->CV y=true):
  ∃v w',(Builtin.append_ #[t,u] ty #[.slice a0 0 0,ux]).run P w=.ok v w'/\FI w g a (.row lab ei.size 0 news.length) aV ((lab,.grow ei.size news)::σ1) v w':=by
 obtain⟨inf,bX,cC,eD,d6⟩:=(aH _ _ bK).info';have fR:=DN (w:=w) (g:=g) (aH _ _ bK);have fL:=(aH _ _ bK).len;have fE:(BJ ei).cells.size=ei.size:=by rw[<-fL,<-Bz,<-fR.1];simp
 have hb:=Dh aW;by_cases dB:news.length=0
 ·have hn:news=[]:=Aq1 dB;have aM:=cR.same dB a0 0 0 (WW _);subst hn;obtain⟨k1,k2,k3⟩:=NM (sz:=ei.size) dM cU;exact⟨_,_,aM,_,aG.trans k1,.rowNil _ _ _ jN (by simp[G.with]),k2,bM.mono k3⟩
 ·have eK:=Cx ei.size news aI;have dN:=A63 w news.length 0 e
  have aM:(Builtin.append_ #[t,u] ty #[.slice a0 0 0,ux]).run P w=.ok (.slice (some ⟨w.heap.size,0,none⟩) news.length (grownCap w news.length 0 e))
    (w.drew.alloc (.cells (ns.toArray++Builtin.zeroCells (BJ ei).cells (grownCap w news.length 0 e-news.length)) e)):=by
   cases a0 with
   |none=>exact cR.nil dB aW
   |some x=>
    have:=cR.grow dB x 0 0 [] Ac Ac Aa (by simpa using aW)
    simpa using this
  refine⟨_,_,aM,(FI.lift aG ?_)⟩;refine Oe dM cU bM (A3i w _) aI ?_ dN ?_ ?_
  ·simp only[A5p,A3b,A6l,n1];omega
  ·simp only[A5p,A3b,A6l,fE,n1,eK,<-A6v];exact A5r _ Aa
  ·intro i v y hv hy;have aC:=Bu hy;rw[A4a (by rw[A3b,n1];exact aC)]at hv;have cY:ns[i]?=some v:=by simpa using hv
   exact⟨aU i y hy,aG.same_world (n3 i v y cY hy)⟩
theorem A3j {aA:Nat} {vs:Array Value} {e:TypeId} (h:w.heap[aA]?=some (.cells vs e (0,0))):Sets w w aA vs e:=⟨Y,λ_ _=>rfl,h,Y,Y⟩
theorem Aev {α:Type} (sz:Nat) (es:List (List α)) (aI: ∀e∈es,e.length=sz) (k i:Nat) (y:α) (h:(es.take k).flatten[i]?=some y):es.flatten[i]?=some y:=by
 have:=Do sz es aI 0 k i y (by simpa using h)
 simpa using this
theorem Zs (aH:Dr P te) (hi:Inv w g σ) {t u ty e:Nat} {ei:TI} (bK:look te e=some ei) {a:Act} {env:A2} (he:AQ w g a env) {b len:Nat} {us ux:Value} {es news:List (List T)}
  (f8:look σ b=some (.grow ei.size es)) (cJ:len<=es.length) (hs:Rel w g us (.row b ei.size 0 len)) (aW:(len+news.length)*(ei.bytes+1)<=140737488355328)
  {ns:List Value} (cR:SrcOk P w t u ty e ux news.length ns ei) (dI: ∀e∈news,e.length=ei.size) (n1:ns.length=news.flatten.length) (n3: ∀(i:Nat) v y,ns[i]?=some v->news.flatten[i]?=some y->RelT w g.M v y) (aU: ∀(i:Nat) y,news.flatten[i]?=some y->CV y=true):
  ∃v w',(Builtin.append_ #[t,u] ty #[us,ux]).run P w=.ok v w'/\FI w g a (.row b ei.size 0 (len+news.length)) (Gv b env) ((b,.grow ei.size (es.take len++news))::CX b σ) v w':=by
 obtain⟨inf,bX,cC,eD,d6⟩:=(aH _ _ bK).info';have fR:=DN (w:=w) (g:=g) (aH _ _ bK);have fL:=(aH _ _ bK).len;have fE:(BJ ei).cells.size=ei.size:=by rw[<-fL,<-Bz,<-fR.1];simp
 have hb:=Dh aW;obtain⟨aG,dM,hk⟩:=Yq hi b (λhb=>by obtain⟨cs,h⟩:=(hi.bx _ hb).2;rw[f8]at h;cases h);have bM:=hk a env he;have cU:look (CX b σ) b=none:=by rw[DL];simp
 obtain⟨e8,bA⟩:=hi.ok b _ f8
 have aI: ∀e∈es.take len++news,e.length=ei.size:=by
  intro e he;rcases A25.1 he with h|h
  ·exact e8 e (A3c h)
  ·exact dI e h
 have dY:(es.take len++news).length=len+news.length:=by simp;omega
 have mX:(es.take len).flatten.length=len*ei.size:=by
  rw[Cx ei.size _ (λe he=>e8 e (A3c he)),A2i,A7i cJ]
 have g7:=Cx ei.size news dI
 cases hs with
 |rowNil _ _ a0 jN hβ=>
  rcases bA with⟨_,rfl⟩|⟨_,_,_,h1,_⟩
  ·have:=Zu (P:=P) (ty:=ty) aH bK jN aG dM cU bM (by simpa using aW) cR dI n1 n3 aU
   simpa using this
  ·rw[hβ]at h1;cases h1
 |row _ _ _ _ aA o cap e0 n0 hβ hsh ho gC dB=>
  rcases bA with⟨h1,_⟩|⟨aX,vs,et,h1,h2,h3,h4,h5⟩
  ·rw[hβ]at h1;cases h1
  ·rw[hβ]at h1;cases h1;have pB:n0=vs.size:=by simp only[World.shape?,h3,A26,A6p]at hsh;exact hsh.2.symm
   have cH: ∀c,(g.without b).β c≠some (some aA):=by
    intro c hc;simp only[G.without]at hc;split at hc
    ·cases hc
    ·rename_i aE;exact aE (hi.inj _ _ _ hc hβ)
   have iV:cap*ei.size<=vs.size:=by rw[<-pB];simpa using dB
   have lJ:len*ei.size<=vs.size:=A47 (A5r _ gC) iV
   have hold: ∀(i:Nat) v y,vs[i]?=some v->(es.take len).flatten[i]?=some y->CV y=true/\RelT w g.M v y:=
    λi v y hv hy=>h5 i v y hv (Aev ei.size es e8 len i y hy)
   have samecase:news=[]->(Builtin.append_ #[t,u] ty #[.slice (some ⟨aA,o,none⟩) len cap,ux]).run P w=.ok (.slice (some ⟨aA,o,none⟩) len cap) w->
     ∃v w',(Builtin.append_ #[t,u] ty #[.slice (some ⟨aA,o,none⟩) len cap,ux]).run P w=.ok v w'/\
      FI w g a (.row b ei.size 0 (len+news.length)) (Gv b env) ((b,.grow ei.size (es.take len++news))::CX b σ) v w':=by
    intro hn aM;subst hn
    obtain⟨k1,k2,k3⟩:=NA dM cU h2 (hi.sx.bs _ _ hβ) cH h3 Y (A3j h3) (B:=.grow ei.size (es.take len++[])) (λhr=>⟨aI,.inr ⟨aA,vs,et,by simp[G.with],.inr Y,h3,by simp only[A5u];rw[mX];exact lJ,λi v y hv hy=>by
     simp only[A5u]at hy
     exact⟨(hold i v y hv hy).1,Av (hr _ _ (.t _ _ (aG.same_world (hold i v y hv hy).2)))⟩⟩⟩)
    refine⟨_,_,aM,_,aG.trans k1,?_,k2,bM.mono k3⟩;exact .row b ei.size 0 _ aA o cap e0 n0 (by simp[G.with]) hsh ho (by simpa using gC) dB
   by_cases hnz:news.length=0
   ·have hn:news=[]:=Aq1 hnz;exact samecase hn (cR.same hnz _ _ _ gC)
   ·have g7:=Cx ei.size news dI;by_cases bJ:len+news.length<=cap
    ·have fQ:o=0:=by rcases ho with h'|h'<;>omega
     subst fQ
     have d8:len*ei.size+ns.length<=vs.size:=by
      rw[n1,g7,<-A6v];exact A47 (A5r _ bJ) iV
     have aM:=cR.room hnz aA len cap et vs h3 bJ d8;have bU:=Sets.setRow h3 (vs.toList.take (len*ei.size)++ns++vs.toList.drop (len*ei.size+ns.length)).toArray
     have gZ:(vs.toList.take (len*ei.size)++ns++vs.toList.drop (len*ei.size+ns.length)).toArray.size=vs.size:=by
      simp only[A3b,Xp,A2i,A43,A53];omega
     have jF: ∀(i:Nat) v y,(vs.toList.take (len*ei.size)++ns++vs.toList.drop (len*ei.size+ns.length)).toArray[i]?=some v->(es.take len++news).flatten[i]?=some y->CV y=true/\RelT w g.M v y:=by
      intro i v y hv hy;have cY:(vs.toList.take (len*ei.size)++ns++vs.toList.drop (len*ei.size+ns.length))[i]?=some v:=by simpa using hv
      rw[A48]at hy;have aC:=Bu hy;rw[Xp,mX]at aC;have dR:(vs.toList.take (len*ei.size)).length=len*ei.size:=by simp;omega
      by_cases c:i<len*ei.size
      ·rw[Abh Aa]at hy;rw[A33,Abh Aa,Aoy,WU c]at cY;exact hold i v y (by rw[<-Agx];exact cY) hy
      ·rw[Aez Aa,mX]at hy;rw[A33,Aez Aa,dR,Abh Aa]at cY;exact⟨aU _ y hy,n3 _ v y cY hy⟩
     obtain⟨k1,k2,k3⟩:=NA dM cU h2 (hi.sx.bs _ _ hβ) cH h3 gZ bU (B:=.grow ei.size (es.take len++news)) (λhr=>⟨aI,.inr ⟨aA,_,et,by simp[G.with],.inr Y,bU.new,by
      rw[gZ,A48,Xp,mX,g7,<-A6v];exact A47 (A5r _ bJ) iV,λi v y hv hy=>
      ⟨(jF i v y hv hy).1,Av (hr _ _ (.t _ _ (aG.same_world (jF i v y hv hy).2)))⟩⟩⟩)
     refine⟨_,_,aM,_,aG.trans k1,?_,k2,bM.mono k3⟩;exact .row b ei.size 0 _ aA 0 cap e0 n0 (by simp[G.with]) (k1.shape _ _ hsh) (.inl Ac) bJ dB
    ·have holds: ∀(j:Nat) v,(vs.toList.take (len*ei.size))[j]?=some v->w.cell? ((⟨aA,o,none⟩:Addr).add j)=some v:=by
      intro j v hv;rw[Aoy]at hv;split at hv
      ·rename_i hj
       have fQ:o=0:=by
        rcases ho with h'|h'
        ·simpa using h'
        ·have:len=0:=Aa;subst this;simp at hj
       rw[BS,C7 h3,<-Agx,fQ,Atj];exact hv
      ·simp at hv
     have dR:(vs.toList.take (len*ei.size)).length=len*ei.size:=by simp;omega
     have aM:=cR.grow hnz ⟨aA,o,none⟩ len cap (vs.toList.take (len*ei.size)) dR holds Aa aW;refine⟨_,_,aM,(FI.lift aG ?_)⟩;have dN:=A63 w (len+news.length) cap e
     have eW:=Oe (es':=es.take len++news) (sz:=ei.size) (cap:=grownCap w (len+news.length) cap e) dM cU bM (A3i w (.cells ((vs.toList.take (len*ei.size)).toArray++ns.toArray++Builtin.zeroCells (BJ ei).cells (grownCap w (len+news.length) cap e-(len+news.length))) e)) aI
      (by rw[A48,Xp,mX];simp only[A5p,A3b,A6l,n1,dR];omega) (by rw[dY];exact dN)
      (by
       simp only[A5p,A3b,A6l,fE,n1,g7,dR,<-A6v]
       exact A5r _ Aa)
      (by
       intro i v y hv hy;rw[A48]at hy;have aC:=Bu hy;rw[Xp,mX]at aC;rw[A4a (by simp only[A5p,A3b,dR,n1];exact aC)]at hv;by_cases c:i<len*ei.size
       ·rw[Abh Aa]at hy;rw[A4a (by rw[A3b,dR];exact c)]at hv;have cY:(vs.toList.take (len*ei.size))[i]?=some v:=by simpa using hv
        rw[Aoy,WU c]at cY;have:=hold i v y (by rw[<-Agx];exact cY) hy;exact⟨this.1,aG.same_world this.2⟩
       ·rw[Aez Aa,mX]at hy;rw[A7m (by rw[A3b,dR];omega),A3b,dR]at hv;have cY:ns[i-len*ei.size]?=some v:=by simpa using hv
        exact⟨aU _ y hy,aG.same_world (n3 _ v y cY hy)⟩)
     rw[dY]at eW;exact eW
theorem LG (aH:Dr P te) {t ty e:Nat} (hu:P.underlying t=some (.slice e)) {ei:TI} (bK:look te e=some ei) {ux:Value} {news:List (List T)}
  (i6:((ux=.slice none 0 0\/ ∃a,ux=.slice (some a) 0 0)/\news=[])\/ ∃b off cap,ux=.slice (some ⟨b,off,none⟩) news.length cap/\(∀e∈news,e.length=ei.size)/\
   ∀(i:Nat) y,news.flatten[i]?=some y->CV y=true/\ ∃u,w.cell? ⟨b,off+i,none⟩=some u/\RelT w g.M u y):
  ∃ns,SrcOk P w t t ty e ux news.length ns ei/\(∀e∈news,e.length=ei.size)/\ns.length=news.flatten.length/\(∀(i:Nat) v y,ns[i]?=some v->news.flatten[i]?=some y->RelT w g.M v y)/\(∀(i:Nat) y,news.flatten[i]?=some y->CV y=true):=by
 obtain⟨inf,bX,cC,eD,d6⟩:=(aH _ _ bK).info';rcases i6 with⟨rfl|⟨a,rfl⟩,rfl⟩|⟨bb,off,capx,rfl,dI,hc⟩
 rotate_left
 ·refine⟨[],⟨λ_ b l c hl=>Zr t ty e inf bX hu c l 0 b a hl,λh=>absurd Y h,λh=>absurd Y h,λh=>absurd Y h⟩,Ac,Y,Ac,Ac⟩
 rotate_left
 ·refine⟨[],⟨λ_ b l c hl=>An7 t ty e inf bX hu c l b hl,λh=>absurd Y h,λh=>absurd Y h,λh=>absurd Y h⟩,Ac,Y,Ac,Ac⟩
 ·obtain⟨ns,n1,n2,n3⟩:=Ie (w:=w) (ts:=news.flatten) (b:=bb) (off:=off) (M:=g.M) (λi y hy=>(hc i y hy).2);have g7:=Cx ei.size news dI
  have eH: ∀u∈ns,u.oneCell'=true:=by
   intro u rD;obtain⟨i,dC,rfl⟩:=A7d rD;have aC:i<news.flatten.length:=by rw[<-n1];exact dC
   exact(He (n3 i _ _ (Kv dC) (Kv aC)) (hc i _ (Kv aC)).1).1
  refine⟨ns,⟨λh0 b l c hl=>?_,λ_ aA bE cG et cur hg bJ d8=>?_,λh0 jR=>?_,λh0 b bE cG olds eT holds aC jR=>?_⟩,dI,n1,n3,λi y hy=>(hc i y hy).1⟩
  ·rw[h0];exact Zr t ty e inf bX hu c l capx b _ hl
  ·have:=Zt (P:=P) t ty e inf hu bX aA bE cG et cur hg ⟨bb,off,none⟩ news.length capx ns (by rw[n1,g7,cC]) (λj v hv=>by rw[BS];exact n2 j v hv) eH bJ (by rw[cC];exact d8);rw[cC]at this;exact this
  ·have hb:=Dh jR;exact run_append_nil (P:=P) w t ty e inf (BJ ei) hu bX d6 ⟨bb,off,none⟩ news.length capx ns (by rw[n1,g7,cC]) (λj v hv=>by rw[BS];exact n2 j v hv) Aa Aa (by rw[eD];omega)
  ·have hb:=Dh jR
   exact run_append_grow (P:=P) w t ty e inf (BJ ei) hu bX d6 b bE cG olds (by rw[eT,cC]) holds ⟨bb,off,none⟩ news.length capx ns (by rw[n1,g7,cC])
    (λj v hv=>by rw[BS];exact n2 j v hv) Aa Aa (growslice_fits Aa (by rw[eD];omega))
theorem Aeh (aH:Dr P te) {t ty e:Nat} (hu:P.underlying t=some (.slice e)) {ei:TI} (bK:look te e=some ei) {a:Act} {g1:G} {σ1:St} {aV:A2} {lab:Nat} {ux:Value} {news:List (List T)} {a0:Option Addr} (jN: ∀x:Addr,a0=some x->True)
  (aG:Ext w g w g1) (dM:Inv w g1 σ1) (cU:look σ1 lab=none) (bM:AQ w g1 a aV) (aW:news.length*(ei.bytes+1)<=140737488355328)
  (i6:((ux=.slice none 0 0\/ ∃a,ux=.slice (some a) 0 0)/\news=[])\/ ∃b off cap,ux=.slice (some ⟨b,off,none⟩) news.length cap/\(∀e∈news,e.length=ei.size)/\
   ∀(i:Nat) y,news.flatten[i]?=some y->CV y=true/\ ∃u,w.cell? ⟨b,off+i,none⟩=some u/\RelT w g.M u y):
  ∃v w',(Builtin.append_ #[t,t] ty #[.slice a0 0 0,ux]).run P w=.ok v w'/\FI w g a (.row lab ei.size 0 news.length) aV ((lab,.grow ei.size news)::σ1) v w':=by
 obtain⟨ns,h1,h2,h3,h4,h5⟩:=LG (ty:=ty) aH hu bK i6;exact Zu aH bK jN aG dM cU bM aW h1 h2 h3 h4 h5
theorem Asf (aH:Dr P te) (hi:Inv w g σ) {t ty e:Nat} (hu:P.underlying t=some (.slice e)) {ei:TI} (bK:look te e=some ei) {a:Act} {env:A2} (he:AQ w g a env) {b len:Nat} {us ux:Value} {es news:List (List T)}
  (f8:look σ b=some (.grow ei.size es)) (cJ:len<=es.length) (hs:Rel w g us (.row b ei.size 0 len)) (aW:(len+news.length)*(ei.bytes+1)<=140737488355328)
  (i6:((ux=.slice none 0 0\/ ∃a,ux=.slice (some a) 0 0)/\news=[])\/ ∃b off cap,ux=.slice (some ⟨b,off,none⟩) news.length cap/\(∀e∈news,e.length=ei.size)/\
   ∀(i:Nat) y,news.flatten[i]?=some y->CV y=true/\ ∃u,w.cell? ⟨b,off+i,none⟩=some u/\RelT w g.M u y):
  ∃v w',(Builtin.append_ #[t,t] ty #[us,ux]).run P w=.ok v w'/\FI w g a (.row b ei.size 0 (len+news.length)) (Gv b env) ((b,.grow ei.size (es.take len++news))::CX b σ) v w':=by
 obtain⟨ns,h1,h2,h3,h4,h5⟩:=LG (ty:=ty) aH hu bK i6;exact Zs aH hi bK he f8 cJ hs aW h1 h2 h3 h4 h5
theorem Vn (aH:Dr P te) (hi:Inv w g σ) {t u ty e:Nat} {ei:TI} (bK:look te e=some ei) {a:Act} {env:A2} (he:AQ w g a env) {us ux:Value} {es news:List (List T)}
  (hs:Rel w g us (.t (.slice .full ei.size es))) (aW:(es.length+news.length)*(ei.bytes+1)<=140737488355328)
  {ns:List Value} (cR:SrcOk P w t u ty e ux news.length ns ei) (dI: ∀e∈news,e.length=ei.size) (n1:ns.length=news.flatten.length) (n3: ∀(i:Nat) v y,ns[i]?=some v->news.flatten[i]?=some y->RelT w g.M v y) (fU: ∀(i:Nat) y,news.flatten[i]?=some y->CV y=true):
  ∃v w',(Builtin.append_ #[t,u] ty #[us,ux]).run P w=.ok v w'/\FI w g a (.t (.slice .any ei.size (es++news))) env σ v w':=by
 obtain⟨inf,bX,cC,eD,d6⟩:=(aH _ _ bK).info';have fR:=DN (w:=w) (g:=g) (aH _ _ bK);have fL:=(aH _ _ bK).len;have fE:(BJ ei).cells.size=ei.size:=by rw[<-fL,<-Bz,<-fR.1];simp
 have hb:=Dh aW
 have weak: ∀{v:Value},RelT w g.M v (.slice .full ei.size es)->RelT w g.M v (.slice .any ei.size es):=by
  intro v h
  cases h with
  |sliceNil=>exact .sliceNil _ _
  |sliceZ a _ _ _=>exact .sliceZ a _ _ Ac
  |slice b off len cap _ _ _ vs hl hc hf hm hp aN aU aL aJ=>exact .slice b off len cap _ _ _ vs hl hc Ac Ac Ac aN aU aL aJ
 have same:news=[]->(Builtin.append_ #[t,u] ty #[us,ux]).run P w=.ok us w-> ∃v w',(Builtin.append_ #[t,u] ty #[us,ux]).run P w=.ok v w'/\FI w g a (.t (.slice .any ei.size (es++news))) env σ v w':=by
  intro hn aM;subst hn;exact⟨us,w,aM,g,A3h _ _,by rw[A5u];exact .t _ _ (weak (Av hs)),hi,he⟩
 obtain⟨a0,len,gU,aO,hold,aI⟩: ∃(a0:Option Addr) (len:Nat),us=.slice a0 len len/\len=es.length/\(∀(i:Nat) y,es.flatten[i]?=some y-> ∃b off,a0=some ⟨b,off,none⟩/\CV y=true/\ ∃u,w.cell? ⟨b,off+i,none⟩=some u/\RelT w g.M u y)/\(∀e∈es,e.length=ei.size):=by
  rcases C5 (Av hs)with⟨h1,h2⟩|⟨b,off,cap,h1,_,h2,_,h3,h4⟩|⟨a,h1,h2,_⟩
  ·subst h2;exact⟨none,0,h1,Y,Ac,Ac⟩
  rotate_left
  ·subst h2;exact⟨some a,0,h1,Y,Ac,Ac⟩
  ·have:=h2 Y;subst this;exact⟨some ⟨b,off,none⟩,_,h1,Y,λi y hy=>⟨b,off,Y,(h4 i y hy).2⟩,h3⟩
 subst gU;by_cases hnz:news.length=0
 ·have hn:news=[]:=Aq1 hnz;exact same hn (cR.same hnz a0 len len (WW _))
 ·have g7:=Cx ei.size news dI;have qU:=Cx ei.size es aI
  obtain⟨os,o1,o2,o3⟩: ∃os:List Value,os.length=es.flatten.length/\(∀(i:Nat) v,os[i]?=some v-> ∃b off,a0=some ⟨b,off,none⟩/\w.cell? ⟨b,off+i,none⟩=some v)/\ ∀(i:Nat) v x,os[i]?=some v->es.flatten[i]?=some x->RelT w g.M v x:=by
   cases a0 with
   |none=>
    have:es.flatten=[]:=A6a.2 λy hy=>by
     obtain⟨i,dC,rfl⟩:=A7d hy;obtain⟨_,_,h,_⟩:=hold i _ (Kv dC);cases h
    exact⟨[],by rw[this];rfl,Ac,Ac⟩
   |some x=>
    obtain⟨b,o,sp⟩:=x;by_cases aE:es.flatten=[]
    ·exact⟨[],by rw[aE];rfl,Ac,Ac⟩
    ·obtain⟨y0,r0,hy0⟩:=A6r aE;obtain⟨b',o',h1,_⟩:=hold 0 y0 (by rw[hy0];rfl);cases h1
     obtain⟨us,u1,u2,u3⟩:=Ie (w:=w) (ts:=es.flatten) (b:=b) (off:=o) (M:=g.M) (λi y hy=>by
      obtain⟨b2,o2,h2,h3⟩:=hold i y hy
      cases h2;exact h3.2)
     exact⟨us,u1,λi v hv=>⟨b,o,Y,u2 i v hv⟩,u3⟩
  have dN:=A63 w (len+news.length) len e
  have aM:(Builtin.append_ #[t,u] ty #[.slice a0 len len,ux]).run P w=.ok (.slice (some ⟨w.heap.size,0,none⟩) (len+news.length) (grownCap w (len+news.length) len e))
    (w.drew.alloc (.cells (os.toArray++ns.toArray++Builtin.zeroCells (BJ ei).cells (grownCap w (len+news.length) len e-(len+news.length))) e)):=by
   cases a0 with
   |none=>
    have iQ:len=0:=by
     rcases C5 (Av hs)with⟨h1,_⟩|⟨_,_,_,h1,_⟩|⟨_,h1,_⟩
     ·cases h1;rfl
     ·cases h1
     ·cases h1
    have hos:os=[]:=Aq1 (by rw[o1,qU,<-aO,iQ];simp);subst iQ;subst hos;have:=cR.nil hnz (by have:=aW;simp[<-aO]at this;exact this)
    simpa using this
   |some x=>
    exact cR.grow hnz x len len os (by rw[o1,qU,<-aO]) (λj v hv=>by
     obtain⟨b,o,h1,h2⟩:=o2 j v hv
     cases h1;rw[BS];exact h2) Aa (by rw[aO];exact aW)
  have hm:=A3i w (.cells (os.toArray++ns.toArray++Builtin.zeroCells (BJ ei).cells (grownCap w (len+news.length) len e-(len+news.length))) e);obtain⟨k1,k2,k3⟩:=Fs hi hm;refine⟨_,_,aM,g,k1,?_,k2,he.mono k3⟩
  refine .t _ _ (EA (by rw[Xp,<-aO]) dN Ac Ac (λe he=>by
   rcases A25.1 he with h|h
   ·exact aI e h
   ·exact dI e h) ?_)
  intro i y hy;rw[A48]at hy;have aC:=Bu hy;rw[Xp]at aC;refine⟨Al0 hi _,?_⟩;by_cases c:i<es.flatten.length
  ·rw[Abh c]at hy
   obtain⟨v,hv⟩: ∃v,os[i]?=some v:=⟨os[i]'(by rw[o1];exact c),Kv _⟩
   obtain⟨_,_,_,aU,_⟩:=hold i y hy;refine⟨aU,v,?_,Av (k3 _ _ (.t _ _ (o3 i v y hv hy)))⟩;rw[Atj,C7 hm.new,A4a (by simp only[A5p,A3b,o1,n1];omega),A4a (by rw[A3b,o1];exact c)]
   simpa using hv
  ·rw[Aez Aa]at hy;have dX:=Bu hy
   obtain⟨v,hv⟩: ∃v,ns[i-es.flatten.length]?=some v:=⟨ns[i-es.flatten.length]'(by rw[n1];exact dX),Kv _⟩
   refine⟨fU _ y hy,v,?_,Av (k3 _ _ (.t _ _ (n3 _ v y hv hy)))⟩;rw[Atj,C7 hm.new,A4a (by simp only[A5p,A3b,o1,n1];omega),A7m (by rw[A3b,o1];omega),A3b,o1]
   simpa using hv
theorem An8 (aH:Dr P te) (hi:Inv w g σ) {t ty e:Nat} (hu:P.underlying t=some (.slice e)) {ei:TI} (bK:look te e=some ei) {a:Act} {env:A2} (he:AQ w g a env) {us ux:Value} {es news:List (List T)}
  (hs:Rel w g us (.t (.slice .full ei.size es))) (aW:(es.length+news.length)*(ei.bytes+1)<=140737488355328)
  (i6:((ux=.slice none 0 0\/ ∃a,ux=.slice (some a) 0 0)/\news=[])\/ ∃b off cap,ux=.slice (some ⟨b,off,none⟩) news.length cap/\(∀e∈news,e.length=ei.size)/\
   ∀(i:Nat) y,news.flatten[i]?=some y->CV y=true/\ ∃u,w.cell? ⟨b,off+i,none⟩=some u/\RelT w g.M u y):
  ∃v w',(Builtin.append_ #[t,t] ty #[us,ux]).run P w=.ok v w'/\FI w g a (.t (.slice .any ei.size (es++news))) env σ v w':=by
 obtain⟨ns,h1,h2,h3,h4,h5⟩:=LG (ty:=ty) aH hu bK i6;exact Vn aH hi bK he hs aW h1 h2 h3 h4 h5
theorem W8 (aH:Dr P te) (hi:Inv w g σ) {a:Act} {env env':A2} {σ':St} (he:AQ w g a env) {t ty dst:Nat} {s x y:AV} {us ux:Value} (hs:Rel w g us s) (hx:Rel w g ux x)
  (h:Ia te t dst s x env σ=some (y,env',σ')): ∃v w',(Builtin.append_ #[t,t] ty #[us,ux]).run P w=.ok v w'/\FI w g a y env' σ' v w':=by
 unfold Ia at h;split at h
 ·rename_i i1 i2 i3 e aC;obtain⟨d,hd,d9⟩:=(aH _ _ aC).und';have hu:P.underlying t=some (.slice e):=by cases d<;>simp[Dp]at d9;subst d9;exact hd
  split at h
  ·rename_i ei bK;split at h
   ·rename_i news eX;have i6:=XV hi hx eX;split at h
    ·rename_i sz0 es0
     have gU:us=.slice none 0 0:=by
      rcases C5 (Av hs)with⟨h1,_⟩|⟨_,_,_,_,_,_,h1,_⟩|⟨_,_,_,h1⟩
      ·exact h1
      ·exact absurd Y h1
      ·exact absurd Y h1
     subst gU;split at h
     ·rename_i aW;obtain⟨aV,σ1,g1,hk,cU,aG,dM,bM⟩:=Ho h hi he;simp at hk;obtain⟨rfl,rfl,rfl⟩:=hk;exact Aeh aH hu bK Ac aG dM cU bM aW i6
     ·simp at h
    ·rename_i cO es;split at h
     ·split at h
      ·obtain⟨a0,jN,gU⟩: ∃a0:Option Addr,(∀x:Addr,a0=some x->True)/\us=.slice a0 0 0:=by
        rcases C5 (Av hs)with⟨h1,_⟩|⟨b,off,cap,h1,_,h2,_⟩|⟨a,h1,_⟩
        ·exact⟨none,Ac,h1⟩
        rotate_left
        ·exact⟨some a,Ac,h1⟩
        ·have:=h2 Y;simp at this;subst this;exact⟨some ⟨b,off,none⟩,Ac,h1⟩
       subst gU;split at h
       ·rename_i aW;obtain⟨aV,σ1,g1,hk,cU,aG,dM,bM⟩:=Ho h hi he;simp at hk;obtain⟨rfl,rfl,rfl⟩:=hk;exact Aeh aH hu bK jN aG dM cU bM aW i6
       ·simp at h
      ·simp at h
     ·split at h
      ·rename_i aN;split at h
       ·rename_i aW;simp at h;obtain⟨rfl,rfl,rfl⟩:=h;rw[aN]at hs;exact An8 aH hi hu bK he hs aW i6
       ·simp at h
      ·simp at h
    ·rename_i b sz lo len;split at h
     ·rename_i cO es f8;split at h
      ·rename_i h1;split at h
       ·rename_i h2;split at h
        ·rename_i cJ;split at h
         ·rename_i aW;simp at h;obtain⟨rfl,rfl,rfl⟩:=h;subst h1;subst h2;exact Asf aH hi hu bK he f8 cJ hs aW i6
         ·simp at h
        ·simp at h
       ·simp at h
      ·simp at h
     ·simp at h
    ·simp at h
   ·simp at h
  ·simp at h
 ·simp at h
end
end Go.Am
namespace Go.Am
section
variable {w:World} {g:G} {σ:St} {D:Nat} {o0:Obj}
theorem Aa7 (hD:w.heap[D]?=some o0) (hc:o0.isCells=false) (o:Obj) {v:Value} {x:AV} (h:Rel w g v x):Rel (w.putObj D o) g v x:=by
 refine h.mono (λb off u h1 h2=>⟨h1,?_⟩) (λ_ _ h=>h) (λb p hp=>?_)
 ·have aE:b≠D:=λe=>by subst e;cases o0<;>simp[World.cell?,hD,Obj.isCells]at h2 hc
  rw[Ch (A29 aE)];exact h2
 ·have aE:b≠D:=λe=>by subst e;cases o0<;>simp[World.shape?,hD,Obj.isCells]at hp hc
  simp only[World.shape?,A29 aE]at hp⊢;exact hp
theorem Sf (hD:w.heap[D]?=some o0) (hc:o0.isCells=false) (o:Obj) {w0:World} {g0:G} (hx:Ext w0 g0 w g) (dN:g0.own D\/w0.heap.size<=D) (e7:o.isCells=false:=by rfl):Ext w0 g0 (w.putObj D o) g:=by
 refine⟨by rw[A5x];exact hx.size,λaA hb ho=>?_,hx.own,hx.oth,λb p hp=>?_,hx.bx,hx.lo,λaA e hb ho he=>?_⟩
 ·rw[A29 (λe=>by subst e;rcases dN with h|h;exact ho h;omega)];exact hx.keep aA hb ho
 ·have hq:=hx.shape b p hp;have aE:b≠D:=λe=>by subst e;cases o0<;>simp[World.shape?,hD,Obj.isCells]at hq hc
  simp only[World.shape?,A29 aE]at hq⊢;exact hq
 ·obtain⟨a1,a2⟩:=hx.sp aA e hb ho he;refine⟨λi aC=>?_,a2⟩;rw[<-a1 i aC];by_cases aE:aA=D
  ·subst aE;have h1:w.cell? ⟨aA,i,none⟩=none:=by cases o0<;>simp[World.cell?,hD,Obj.isCells]at hc⊢
   have h2:(w.putObj aA o).heap[aA]?=some o:=A75 (C9 hD);have h3:(w.putObj aA o).cell? ⟨aA,i,none⟩=none:=by cases o<;>simp[World.cell?,h2,Obj.isCells]at e7⊢
   rw[h1,h3]
  ·exact Ch (A29 aE) _ _
end
section
variable {P:Program} {σ:St}
theorem SD {w:World} {M:Nat->Nat->Prop} {z kk:IntKind} {m:Int}: ∀(es:List MapEntry) (ks:List T) (j:Nat),es.length=ks.length->(∀(i:Nat) e x,es[i]?=some e->ks[i]?=some x->RelT w M e.key x)->
  ∀r,JD kk m ks j=some r->(r=none/\Instr.findNow (.int z) (.int kk m) es j=some none)\/ ∃i e,r=some (j+i)/\es[i]?=some e/\Instr.findNow (.int z) (.int kk m) es j=some (some (j+i,e.val))
 |[],[],j,_,_,r,h=>by simp[JD]at h;subst h;exact .inl ⟨Y,Y⟩
 |e::es,x::ks,j,hl,hr,r,h=>by
  have h0:=hr 0 e x Y Y
  cases x with
  |int k' b=>
   cases hk:e.key with
   |int k2 b2=>
    rw[hk]at h0;cases h0;simp only[JD]at h;split at h
    ·rename_i nG;subst nG;split at h
     ·rename_i hb;subst hb;simp at h;subst h;exact .inr ⟨0,e,Y,Y,by simp[Instr.findNow,hk,Instr.sameNow]⟩
     ·rename_i hb;rcases SD es ks (j+1) (by simpa using hl) (λi e x he hx=>hr (i+1) e x (by simpa using he) (by simpa using hx)) r h with⟨h1,h2⟩|⟨i,e',h1,h2,h3⟩
      ·refine .inl ⟨h1,?_⟩;simp only[Instr.findNow,hk,Instr.sameNow,Xs];have:(m==b)=false:=by simpa using hb
       rw[this];exact h2
      ·refine .inr ⟨i+1,e',by rw[h1];congr 1;omega,by simpa using h2,?_⟩;simp only[Instr.findNow,hk,Instr.sameNow,Xs];have:(m==b)=false:=by simpa using hb
       rw[this];simp only;rw[h3];congr 3;omega
    ·simp at h
   |_=>rw[hk]at h0;cases h0
  |_=>simp[JD]at h
 |[],_::_,_,hl,_,_,_=>by simp at hl
 |_::_,[],_,hl,_,_,_=>by simp at hl
theorem TD {w:World} {b:Bool} {kt:Nat} {z:IntKind} {v:Value} (hk:P.underlying kt=some (.int z)) (m:Nat):(Instr.checkKey b (m+1) kt v).run P w=.ok () w:=by
 rw[Instr.checkKey];simp only[Ake,A3a hk,Y5];cases v<;>rfl
theorem DF {w:World} {b:Bool} {kt:Nat} {z:IntKind} {v:Value} (hk:P.underlying kt=some (.int z)):(Instr.checkKey b 10000 kt v).run P w=.ok () w:=TD hk 9999
theorem Gc {w:World} {kt:Nat} {z:IntKind} {v:Value} {es:List MapEntry} {r:Option (Nat×Value)} (hk:P.underlying kt=some (.int z)) (h:Instr.findNow (.int z) v es 0=some r):(Instr.findKey kt v es).run P w=.ok r w:=by
 simp only[Instr.findKey,Ake,A3a hk,Y5,h,A4t]
theorem QM {w:World} {g:G} (hi:Inv w g σ) {b:Nat} {ks ks':List T} {xs xs':List AV} (hb:look σ b=some (.mp ks xs)): ∃aA es clk,g.β b=some (some aA)/\w.heap[aA]?=some (.map es clk)/\es.size=ks.length/\es.size=xs.length/\
  (∀(i:Nat) e x,es[i]?=some e->ks[i]?=some x->RelT w g.M e.key x)/\(∀(i:Nat) e x,es[i]?=some e->xs[i]?=some x->Rel w g e.val x)/\
  ∀es' clk',es'.size=ks'.length->es'.size=xs'.length->(∀(i:Nat) e x,es'[i]?=some e->ks'[i]?=some x->RelT w g.M e.key x)->(∀(i:Nat) e x,es'[i]?=some e->xs'[i]?=some x->Rel w g e.val x)->
   Ext w g (w.putObj aA (.map es' clk')) g/\Inv (w.putObj aA (.map es' clk')) g (upd σ b (.mp ks' xs'))/\ ∀v x,Rel w g v x->Rel (w.putObj aA (.map es' clk')) g v x:=by
 obtain⟨l,es,clk,h1,h2,h3,h4,h5,h6,h7⟩:=hi.ok b _ hb;refine⟨l,es,clk,h1,h3,h4,h5,h6,h7,λes' clk' q1 q2 q3 q4=>?_⟩;have hr: ∀v x,Rel w g v x->Rel (w.putObj l (.map es' clk')) g v x:=λv x h=>Aa7 h3 Y _ h;have rI: ∀aA e,g.sp aA=some e->aA≠l:=λaA e he e'=>by subst e';rw[hi.sx.bs _ _ h1]at he;cases he
 have hx:Ext w g (w.putObj l (.map es' clk')) g:=by
  refine Sf h3 Y _ (A3h w g) (.inl h2) (by rfl)
 refine⟨hx,⟨λc C hC=>?_,λc=>?_,hi.inj,λaA h=>by rw[A5x];exact hi.lt aA h,λc hc=>⟨(hi.bx c hc).1,?_⟩,hi.dis,λp hp=>⟨(hi.im p hp).1,?_⟩,by rw[A5x];exact hi.lo,hi.sx.mono (by rw[A5x];exact WW _) Y (λ_ _ _ h=>h) (λaA e he _ _=>A29 (rI aA e he)) (λc aA h=>.inl ⟨c,h⟩) (λd L hL=>?_)⟩,hr⟩
 ·rw[AK]at hC;split at hC
  ·rename_i e;subst e;cases hC;exact⟨l,es',clk',h1,h2,A75 (C9 h3),q1,q2,λi e x he hx=>Av (hr _ _ (.t _ _ (q3 i e x he hx))),λi e x he hx=>hr _ _ (q4 i e x he hx)⟩
  ·rename_i aE;refine(hi.ok c C hC).mono Y (λ_ _ h=>h) (λaA cN=>A29 λe=>?_) hr;subst e;exact aE (hi.inj _ _ _ h1 cN)
 ·rw[AK];by_cases e:b=c
  ·subst e;simp[h1]
  ·simp only[Ug e];exact hi.dom c
 ·rw[AK];by_cases e:b=c
  ·subst e;obtain⟨_,cs,h⟩:=hi.bx b hc;rw[hb]at h;cases h
  ·simp only[Ug e];exact(hi.bx c hc).2
 ·have hq:=(hi.im p hp).2;have aE:p.1≠l:=λe=>by rw[e]at hq;simp[World.cell?,h3]at hq
  rw[Ch (A29 aE)];exact hq
 ·rw[AK]at hL;split at hL
  ·cases hL
  ·exact hL
theorem V7 (m:Nat) (k:IntKind) (a:Int):Instr.sameBits m (.int k a) (.int k a)=true:=by
 cases m<;>simp[Instr.sameBits]
theorem Ol {w:World} {es:List MapEntry} {α:Type} {ks:List α} {R:MapEntry->α->Prop} {i:Nat} (hl:es.length=ks.length) (h: ∀(j:Nat) e x,es[j]?=some e->ks[j]?=some x->R e x): ∀(j:Nat) e x,(es.eraseIdx i)[j]?=some e->(ks.eraseIdx i)[j]?=some x->R e x:=by
 intro j e x he hx;rw[List.getElem?_eraseIdx]at he hx;split at he
 ·rename_i aC;rw[WU aC]at hx;exact h j e x he hx
 ·rename_i aC;rw[Ug aC]at hx;exact h (j+1) e x he hx
theorem Ac7 {t:Nat} {ti:TI} (h:TeOk1 P t ti) {k e:Nat} (hk:ti.kind=.map k e):P.underlying t=some (.map k e):=by
 obtain⟨d,hd,h1⟩:=h.und';rw[hk]at h1;cases d<;>simp[Dp]at h1
 obtain⟨rfl,rfl⟩:=h1;exact hd
theorem Aja {t:Nat} {ti:TI} (h:TeOk1 P t ti) {k:IntKind} (hk:ti.kind=.int k):P.underlying t=some (.int k):=by
 obtain⟨d,hd,h1⟩:=h.und';rw[hk]at h1;cases d<;>simp[Dp]at h1
 subst h1;exact hd
theorem OM {te:TE} (aH:Dr P te) {t et:Nat} (h:UD te t=some et): ∃kt z,P.underlying t=some (.map kt et)/\P.underlying kt=some (.int z):=by
 unfold UD at h;split at h
 ·rename_i kt et' hl;split at h
  ·rename_i z hk;simp at h;subst h;exact⟨kt,z,Ac7 (aH _ _ hl) Y,Aja (aH _ _ hk) Y⟩
  ·simp at h
 ·simp at h
theorem J3 {w:World} {g:G} {v:Value} {b aA:Nat} (h:Rel w g v (.mref b)) (h1:g.β b=some (some aA)):v=.map (some aA):=by
 cases h with
 |mref _ aX hβ=>rw[h1]at hβ;cases hβ;rfl
theorem Aej {w:World} {g:G} {t:Nat} {ti:TI} (h:TeOk1 P t ti):Rel w g (BJ ti) (Ac0 ti):=by
 have fR:=DN (w:=w) (g:=g) h;have hl:=h.len;have h1:=h.one;unfold BJ at fR⊢;unfold Ac0
 cases ha:ti.kind.agg with
 |true=>
  rw[ha]at fR;simp only[A6x,Value.cells]at fR⊢;exact .agg (ti.zero.map ZB) _ (by simp[Bz]) (λi v x hv hx=>fR.2 i v x (by simpa using hv) hx)
 |false=>
  have hz:=h1 ha;rw[<-hl]at hz;obtain⟨x,hx⟩:=List.length_eq_one_iff.1 hz;have hc:=h.const;rw[hx]at hc;simp only[A6y,List.all_nil,A78]at hc;simp only[hx,A61,List.headD_cons];exact .t _ _ (MF hc)
theorem Im {w:World} {g:G} {es:Array MapEntry} {ks:List T} {kk z:IntKind} {m:Int} {r:Option Nat} (h4:es.size=ks.length) (h6: ∀(i:Nat) e x,es[i]?=some e->ks[i]?=some x->RelT w g.M e.key x) (hf:JD kk m ks 0=some r):
  (r=none/\Instr.findNow (.int z) (.int kk m) es.toList 0=some none)\/ ∃i e,r=some i/\es[i]?=some e/\Instr.findNow (.int z) (.int kk m) es.toList 0=some (some (i,e.val)):=by
 rcases SD (z:=z) es.toList ks 0 (by simp[h4]) (λi e x he hx=>h6 i e x (by rw[<-Agx];exact he) hx) _ hf with h|⟨i,e,h1,h2,h3⟩
 ·exact .inl h
 ·exact .inr ⟨i,e,by rw[h1];simp,by rw[<-Agx];exact h2,by rw[h3];simp⟩
theorem YD {kk:IntKind} {m:Int}: ∀{ks:List T} {j i:Nat},JD kk m ks j=some (some i)->j<=i/\ks[i-j]?=some (.int kk m)
 |[],j,i,h=>by simp[JD]at h
 |x::r,j,i,h=>by
  cases x with
  |int k' b=>
   simp only[JD]at h;split at h
   ·rename_i hk;subst hk;split at h
    ·rename_i hb;subst hb;simp at h;subst h;exact⟨WW _,Ac⟩
    ·obtain⟨h1,h2⟩:=YD h;refine⟨Aa,?_⟩;have:i-j=(i-(j+1))+1:=Aa;rw[this];simpa using h2
   ·simp at h
  |_=>simp[JD]at h
theorem Mq {te:TE} (aH:Dr P te) {w:World} {g:G} (hi:Inv w g σ) {a:Act} {env env':A2} {σ':St} (he:AQ w g a env) {o:Oper} {x:AV} {t:Nat} {mo ko vo:Operand} (ho:o.op=.insert t mo ko vo\/o.op=.mapUpdate t mo ko vo) (h:QN te t mo ko vo env σ=some (x,env',σ')):
  BN P o a w (FI w g a x env' σ'):=by
 unfold QN at h;split at h
 ·rename_i et pM;obtain⟨kt,z,ht,gQ⟩:=OM aH pM;split at h
  ·rename_i b hm;split at h
   ·rename_i kk m hk;split at h
    ·rename_i y hv;split at h
     ·rename_i σ1 hp;simp at h;obtain⟨rfl,rfl,rfl⟩:=h;unfold Ak8 at hp;split at hp
      ·rename_i ks xs hb;have kX:a.eval ko=.int kk m:=CC (AF he hk);split at hp
       ·rename_i hf;simp at hp;subst hp;obtain⟨aA,es,clk,h1,h3,h4,h5,h6,h7,h8⟩:=QM (ks':=ks++[.int kk m]) (xs':=xs++[y]) hi hb;have gB:=J3 (AF he hm) h1
        obtain⟨q1,q2,q3⟩:=h8 (es.push ⟨.int kk m,a.eval vo,clk⟩) (clk+1) (by simp[h4]) (by simp[h5])
         (λi e x bK hx=>by
          rw[Array.getElem?_push]at bK;split at bK
          ·cases bK;rw[Aez Aa]at hx;have:i-ks.length=0:=Aa;rw[this]at hx;cases hx;exact .int _ _
          ·have aC:i<es.size:=(A59.1 bK).1;rw[Abh Aa]at hx
           exact h6 i e x bK hx)
         (λi e x bK hx=>by
          rw[Array.getElem?_push]at bK;split at bK
          ·cases bK;rw[Aez Aa]at hx;have:i-xs.length=0:=Aa;rw[this]at hx;cases hx;exact AF he hv
          ·have aC:i<es.size:=(A59.1 bK).1;rw[Abh Aa]at hx
           exact h7 i e x bK hx)
        rcases Im (z:=z) (w:=w) (g:=g) h4 h6 hf with⟨_,kH⟩|⟨i,e,hn,_⟩
        ·refine BN.skip (w':=w.putObj aA (.map (es.push ⟨.int kk m,a.eval vo,clk⟩) (clk+1))) ?_ ⟨g,q1,.t _ _ .undef,q2,he.mono q3⟩;rcases ho with ho|ho<;>simp[execOp,ho,gB,kX,Instr.mapUpdate,A3a ht,getObj,setObj,Sem.run,h3,DF gQ,Gc gQ kH,World.putObj]
        ·cases hn
       ·rename_i i hf;simp at hp;subst hp;obtain⟨aA,es,clk,h1,h3,h4,h5,h6,h7,h8⟩:=QM (ks':=ks) (xs':=xs.set i y) hi hb;have gB:=J3 (AF he hm) h1;rcases Im (z:=z) (w:=w) (g:=g) h4 h6 hf with⟨hn,_⟩|⟨i',e,hn,bK,kH⟩
        ·cases hn
        ·cases hn
         have pL:e.key=.int kk m:=by
          have:=h6 i e _ bK (YD hf).2;generalize e.key=u at this;cases this;rfl
         obtain⟨q1,q2,q3⟩:=h8 (es.modify i λe=>{e with key:=.int kk m,val:=a.eval vo}) clk (by simp[h4]) (by simp[h5])
          (λj e' x hQ hx=>by
           rw[A6u]at hQ;split at hQ
           ·rename_i kD;subst kD;rw[bK]at hQ;simp at hQ;subst hQ;have:=h6 i e x bK hx;rw[pL]at this;exact this
           ·exact h6 j e' x hQ hx)
          (λj e' x hQ hx=>by
           rw[A6u]at hQ;rw[A8w]at hx;split at hQ
           ·rename_i kD;subst kD;rw[bK]at hQ;simp at hQ;subst hQ;rw[WU Y]at hx;split at hx
            ·cases hx;exact AF he hv
            ·simp at hx
           ·rename_i kD;rw[Ug kD]at hx
            exact h7 j e' x hQ hx)
         refine BN.skip (w':=w.putObj aA (.map (es.modify i λe=>{e with key:=.int kk m,val:=a.eval vo}) clk)) ?_ ⟨g,q1,.t _ _ .undef,q2,he.mono q3⟩;have sM:(Instr.keyThatStays (.int kk m) (.int kk m)).run P w=.ok (.int kk m) w:=by simp[Instr.keyThatStays,V7]
         rcases ho with ho|ho<;>simp[execOp,ho,gB,kX,Instr.mapUpdate,A3a ht,getObj,setObj,Sem.run,h3,DF gQ,Gc gQ kH,World.putObj,bK,pL,sM]
       ·simp at hp
      ·simp at hp
     ·simp at h
    ·simp at h
   ·simp at h
  ·simp at h
 ·simp at h
theorem PU {te:TE} (aH:Dr P te) {w:World} {g:G} {es:Array MapEntry} {ks:List T} {xs:List AV} {kk z:IntKind} {m:Int} {et kt:Nat} {ok:Bool} {y:AV} (h4:es.size=ks.length) (h6: ∀(i:Nat) e x,es[i]?=some e->ks[i]?=some x->RelT w g.M e.key x)
  (h7: ∀(i:Nat) e x,es[i]?=some e->xs[i]?=some x->Rel w g e.val x) (gQ:P.underlying kt=some (.int z)) (h:LR te et ok kk m ks xs=some y):
  (∃i v,(Instr.findKey kt (.int kk m) es.toList).run P w=.ok (some (i,v)) w/\Rel w g (if ok then .tuple #[v,.bool true]else v) y)\/
   ∃v,(Instr.findKey kt (.int kk m) es.toList).run P w=.ok none w/\(zeroValue et).run P w=.ok v w/\Rel w g (if ok then .tuple #[v,.bool false]else v) y:=by
 have tup: ∀(v:Value) (x:AV) (b:Bool),Rel w g v x->Rel w g (if ok then .tuple #[v,.bool b]else v) (bif ok then .tuple [x,.t (.bool b)]else x):=λv x b hr=>by
  cases ok with
  |false=>exact hr
  |true=>
   refine .tuple [v,.bool b] _ Y (λi v' x' hv hx=>?_)
   match i with
   |0=>cases hv;cases hx;exact hr
   |1=>cases hv;cases hx;exact .t _ _ (.bool b)
   |i+2=>simp at hv
 unfold LR at h;split at h
 ·rename_i i hf;split at h
  ·rename_i x hx;simp at h;subst h;rcases Im (z:=z) (w:=w) (g:=g) h4 h6 hf with⟨hn,_⟩|⟨i',e,hn,bK,kH⟩
   ·cases hn
   ·cases hn;exact .inl ⟨_,e.val,Gc gQ kH,tup _ _ _ (h7 i e x bK hx)⟩
  ·simp at h
 ·rename_i hf;split at h
  ·rename_i ei bK;simp at h;subst h;rcases Im (z:=z) (w:=w) (g:=g) h4 h6 hf with⟨_,kH⟩|⟨i',e,hn,_⟩
   ·exact .inr ⟨BJ ei,Gc gQ kH,DI (aH _ _ bK) w,tup _ _ _ (Aej (aH _ _ bK))⟩
   ·cases hn
  ·simp at h
 ·simp at h
theorem Sd {w:World} {g:G} {v:Value} (h:Rel w g v (.t .nilMap)):v=.map none:=by
 have:=Av h;cases this;rfl
theorem Ii {c:Cfg} (aH:Dr P c.te) {w:World} {g:G} (hi:Inv w g σ) {a:Act} {env env':A2} {σ':St} (he:AQ w g a env) {o:Oper} {x:AV} (h:VY c o env σ=some (x,env',σ')):BN P o a w (FI w g a x env' σ'):=by
 unfold VY at h;split at h
 ·rename_i t r ho;split at h
  ·split at h
   ·rename_i d hd;obtain⟨aV,σ1,g1,hk,cU,aG,dM,bM⟩:=Ho h hi he;simp at hk;obtain⟨rfl,rfl,rfl⟩:=hk;have hm:=More.alloc w (.map #[] 0);obtain⟨k1,k2,k3⟩:=HS dM cU hm (B:=.mp [] []) (λhr=>⟨w.heap.size,#[],0,by simp[G.with],.inr Y,hm.new,Y,Y,Ac,Ac⟩);exact BN.value (v:=.map (some w.heap.size)) (w':=w.alloc (.map #[] 0)) (by simp[execOp,ho,Instr.makeMap,newObj,Sem.run]) ⟨_,aG.trans k1,.mref _ _ (by simp[G.with]),k2,bM.mono k3⟩
   ·simp at h
  ·simp at h
 ·rename_i t m k v ho;exact Mq aH hi he (.inl ho) h
 ·rename_i t m k v ho;exact Mq aH hi he (.inr ho) h
 ·rename_i t mo ko ok ho;split at h
  ·rename_i et pM;obtain⟨kt,z,ht,gQ⟩:=OM aH pM;split at h
   ·rename_i kk m hk;have kX:a.eval ko=.int kk m:=CC (AF he hk);split at h
    ·rename_i b hm;split at h
     ·rename_i ks xs hb;split at h
      ·rename_i y hy;simp at h;obtain⟨rfl,rfl,rfl⟩:=h;obtain⟨aA,es,clk,h1,h2,h3,h4,h5,h6,h7⟩:=hi.ok b _ hb;have gB:=J3 (AF he hm) h1;rcases PU (P:=P) aH (w:=w) h4 h6 h7 gQ hy with⟨i,v,q1,q3⟩|⟨v,q1,q2,q3⟩
       ·refine BN.value (v:=if ok then .tuple #[v,.bool true]else v) (w':=w) ?_ ⟨g,A3h _ _,q3,hi,he⟩;simp[execOp,ho,gB,kX,Instr.lookup,A3a ht,getObj,Sem.run,h3,DF gQ,q1]
       ·refine BN.value (v:=if ok then .tuple #[v,.bool false]else v) (w':=w) ?_ ⟨g,A3h _ _,q3,hi,he⟩;simp[execOp,ho,gB,kX,Instr.lookup,A3a ht,getObj,Sem.run,h3,DF gQ,q1,q2]
      ·simp at h
     ·simp at h
    ·rename_i hm;split at h
     ·rename_i y hy;simp at h;obtain⟨rfl,rfl,rfl⟩:=h;have gB:=Sd (AF he hm);rcases PU (P:=P) aH (w:=w) (g:=g) (es:= #[]) Y Ac Ac gQ hy with⟨i,v,q1,q3⟩|⟨v,q1,q2,q3⟩
      ·refine BN.value (v:=if ok then .tuple #[v,.bool true]else v) (w':=w) ?_ ⟨g,A3h _ _,q3,hi,he⟩;simp at q1;simp[execOp,ho,gB,kX,Instr.lookup,A3a ht,DF gQ,q1]
      ·refine BN.value (v:=if ok then .tuple #[v,.bool false]else v) (w':=w) ?_ ⟨g,A3h _ _,q3,hi,he⟩;simp at q1;simp[execOp,ho,gB,kX,Instr.lookup,A3a ht,DF gQ,q1,q2]
     ·simp at h
    ·simp at h
   ·simp at h
  ·simp at h
 ·rename_i cl ho;split at h
  ·rename_i bR;split at h
   ·rename_i mo ha;split at h
    ·rename_i t ts eG;split at h
     ·rename_i i1 i2 i3 kt et hl;have ht:=Ac7 (aH _ _ hl) Y;have lP:cl.args= #[mo]:=by apply A5v;simp[ha]
      have lD:cl.argTypes[0]?=some t:=by rw[<-Agx,eG];rfl
      split at h
      ·rename_i b hm;split at h
       ·rename_i ks xs hb;simp at h;obtain⟨rfl,rfl,rfl⟩:=h;obtain⟨aA,es,clk,h1,h2,h3,h4,h5,h6,h7⟩:=hi.ok b _ hb;have gB:=J3 (AF he hm) h1;refine BN.value (v:=.int .i64 (ks.length:Int)) (w':=w) ?_ ⟨g,A3h _ _,.t _ _ (.int _ _),hi,he⟩;simp[execOp,ho,resolve,bR,invoke,builtin,lP,lD,gB,Builtin.len_,A3a ht,getObj,Sem.run,h3,goInt,h4]
       ·simp at h
      ·rename_i hm;simp at h;obtain⟨rfl,rfl,rfl⟩:=h;have gB:=Sd (AF he hm);refine BN.value (v:=.int .i64 0) (w':=w) ?_ ⟨g,A3h _ _,.t _ _ (.int _ _),hi,he⟩;simp[execOp,ho,resolve,bR,invoke,builtin,lP,lD,gB,Builtin.len_,A3a ht,goInt]
      ·simp at h
     ·simp at h
    ·simp at h
   ·simp at h
  ·rename_i bR;split at h
   ·rename_i mo ko ha;split at h
    ·rename_i t ts eG;split at h
     ·rename_i et pM;obtain⟨kt,z,ht,gQ⟩:=OM aH pM;have lP:cl.args= #[mo,ko]:=by apply A5v;simp[ha]
      have lD:cl.argTypes[0]?=some t:=by rw[<-Agx,eG];rfl
      split at h
      ·rename_i b hm;split at h
       ·rename_i kk m hk;have kX:a.eval ko=.int kk m:=CC (AF he hk);split at h
        ·rename_i σ1 hp;simp at h;obtain⟨rfl,rfl,rfl⟩:=h;unfold Ak9 at hp;split at hp
         ·rename_i ks xs hb;split at hp
          ·rename_i hf;simp at hp;subst hp;obtain⟨aA,es,clk,h1,h3,h4,h5,h6,h7,h8⟩:=QM (ks':=ks) (xs':=xs) hi hb;have gB:=J3 (AF he hm) h1;obtain⟨q1,q2,q3⟩:=h8 es clk h4 h5 h6 h7;rcases Im (z:=z) (w:=w) (g:=g) h4 h6 hf with⟨_,kH⟩|⟨i,e,hn,_⟩
           ·refine BN.value (v:=.tuple #[]) (w':=w.putObj aA (.map es clk)) ?_ ⟨g,q1,.tuple [] _ Y Ac,q2,he.mono q3⟩;simp[execOp,ho,resolve,bR,invoke,builtin,lP,lD,gB,kX,Builtin.delete_,A3a ht,getObj,setObj,Sem.run,h3,DF gQ,Gc gQ kH,World.putObj]
           ·cases hn
          ·rename_i i hf;simp at hp;subst hp;obtain⟨aA,es,clk,h1,h3,h4,h5,h6,h7,h8⟩:=QM (ks':=ks.eraseIdx i) (xs':=xs.eraseIdx i) hi hb;have gB:=J3 (AF he hm) h1;rcases Im (z:=z) (w:=w) (g:=g) h4 h6 hf with⟨hn,_⟩|⟨i',e,hn,bK,kH⟩
           ·cases hn
           ·cases hn;have aC:i<es.size:=(A59.1 bK).1;have iE:(es.eraseIdxIfInBounds i).toList=es.toList.eraseIdx i:=by simp[Array.eraseIdxIfInBounds,aC]
            have gW:(es.eraseIdxIfInBounds i).size=es.size-1:=by simp[Array.eraseIdxIfInBounds,aC]
            obtain⟨q1,q2,q3⟩:=h8 (es.eraseIdxIfInBounds i) clk (by rw[gW,A68,WU Aa,h4]) (by rw[gW,A68,WU Aa,h5])
             (λj e x hQ hx=>Ol (w:=w) (es:=es.toList) (R:=λe x=>RelT w g.M e.key x) (i:=i) (by simp[h4]) (λj e x a b=>h6 j e x (by rw[<-Agx];exact a) b) j e x (by rw[<-iE,Agx];exact hQ) hx)
             (λj e x hQ hx=>Ol (w:=w) (es:=es.toList) (R:=λe x=>Rel w g e.val x) (i:=i) (by simp[h5]) (λj e x a b=>h7 j e x (by rw[<-Agx];exact a) b) j e x (by rw[<-iE,Agx];exact hQ) hx)
            refine BN.value (v:=.tuple #[]) (w':=w.putObj aA (.map (es.eraseIdxIfInBounds i) clk)) ?_ ⟨g,q1,.tuple [] _ Y Ac,q2,he.mono q3⟩;simp[execOp,ho,resolve,bR,invoke,builtin,lP,lD,gB,kX,Builtin.delete_,A3a ht,getObj,setObj,Sem.run,h3,DF gQ,Gc gQ kH,World.putObj]
          ·simp at hp
         ·simp at hp
        ·simp at h
       ·simp at h
      ·simp at h
     ·simp at h
    ·simp at h
   ·simp at h
  ·simp at h
 ·simp at h
end
end Go.Am
namespace Go.Am
section
variable {P:Program} {c:Cfg} {w:World} {g:G} {σ:St}
theorem BN.mono {o:Oper} {a:Act} {R R':Value->World->Prop} (h:BN P o a w R) (hr: ∀v w',R v w'->R' v w'):BN P o a w R':=
 λF hF next Q hn=>h F hF next Q λv w' hv=>hn v w' (hr v w' hv)
theorem Adk {α:Type} (z:List α): ∀(l i:Nat) (y:α),(List.replicate l z).flatten[i]?=some y->z[i % z.length]?=some y
 |0,i,y,h=>by simp at h
 |l+1,i,y,h=>by
  rw[A7t,A5g]at h;by_cases hi:i<z.length
  ·rw[Abh hi]at h;rw[Nat.mod_eq_of_lt hi];exact h
  ·rw[Aez Aa]at h;have:=Adk z l _ y h;rw[Nat.mod_eq_sub_mod Aa];exact this
theorem Abb {te:TE} (aH:Dr P te) (hi:Inv w g σ) {a:Act} {env env':A2} {σ':St} (he:AQ w g a env) {t d:Nat} {u v:Value} {p q x:AV} (hp:Rel w g u p) (hq:Rel w g v q)
  (h:So te t d p q env σ=some (x,env',σ')): ∃r w',(Instr.makeSlice t u v).run P w=.ok r w'/\FI w g a x env' σ' r w':=by
 unfold So at h;split at h
 ·rename_i i1 i2 i3 e hl;split at h
  ·rename_i ei bK;split at h
   ·rename_i k1 l0;split at h
    ·rename_i l iQ;split at h
     ·rename_i k2 c0;split at h
      ·rename_i cp mF;split at h
       ·rename_i gC;split at h
        ·rename_i hb;obtain⟨aV,σ1,g1,hk,cU,aG,dM,bM⟩:=Ho h hi he;simp at hk;obtain⟨rfl,rfl,rfl⟩:=hk;obtain⟨inf,bX,cC,eD,d6⟩:=(aH _ _ bK).info'
         have hu:P.underlying t=some (.slice e):=by
          obtain⟨d,hd,d9⟩:=(aH _ _ hl).und';cases d<;>simp[Dp]at d9
          subst d9;exact hd
         have fR:=DN (w:=w) (g:=g1) (aH _ _ bK);have fL:=(aH _ _ bK).len;have fE:(BJ ei).cells.size=ei.size:=by rw[<-fL,<-Bz,<-fR.1];simp
         rw[CC hp,CC hq,Ln iQ,Ln mF];have cN:cp*ei.bytes+cp<=140737488355328:=by rw[Nat.mul_add,A62]at hb;exact hb
         have mL:(inf.bytes:Int)*(cp:Int)<=281474976710656:=by
          rw[eD,<-Int.natCast_mul,Nat.mul_comm];omega
         have hr:=run_make (P:=P) w t e inf (BJ ei) hu bX d6 k1 k2 (l:Int) (cp:Int) Aa Aa mL Aa;simp only[Int.toNat_natCast]at hr;refine⟨_,_,hr,FI.lift aG ?_⟩
         have aI: ∀e∈List.replicate l ei.zero,e.length=ei.size:=λe he=>by
          rw[(List.mem_replicate.1 he).2];exact fL
         have:=Oe (w:=w) (cap:=cp) (e:=e) (arr:=madeCells (BJ ei).cells (cp*inf.size)) dM cU bM (More.alloc w _) aI ?_ (by simpa using gC) ?_ ?_
         ·simpa using this
         ·rw[Cx ei.size _ aI,size_madeCells,cC]
          simpa using A5r ei.size gC
         ·rw[size_madeCells,cC];exact WW _
         ·intro i v y hv hy;have iA:=Adk _ _ _ _ hy;have aC:=Bu iA
          have cY:(BJ ei).cells[i % ei.zero.length]?=some v:=by
           have aN:ei.zero.length=(BJ ei).cells.size:=by rw[fE,fL]
           rw[aN]at aC⊢;unfold madeCells at hv;have qS:=A59.1 hv;obtain⟨hh,qS⟩:=qS;simp at qS;rw[<-qS];simp[aC]
          have g6:=fR.2 (i % ei.zero.length) v (.t y) (by simpa using cY) (by rw[CK,iA];rfl);refine⟨?_,Av g6⟩;have:=(aH _ _ bK).const;rw[A21]at this;have tG:=this y (Apj iA);cases y<;>simp[GV]at tG<;>rfl
        ·simp at h
       ·simp at h
      ·simp at h
     ·simp at h
    ·simp at h
   ·simp at h
  ·simp at h
 ·simp at h
theorem FZ (aH:Dr P c.te) (hi:Inv w g σ) {a:Act} {env env':A2} {σ':St} (he:AQ w g a env) {o:Oper} {x:AV} (h:Gp c o env σ=some (x,env',σ')):
  BN P o a w (FI w g a x env' σ'):=by
 unfold Gp at h;split at h
 case h_1 t ho=>
  split at h
  ·rename_i d hd;split at h
   ·rename_i ti hl;obtain⟨aV,σ1,g1,hk,cU,aG,dM,bM⟩:=Ho h hi he;simp[LO]at hk;obtain⟨rfl,rfl,rfl⟩:=hk;refine(Vm (e:=t) (u:=BJ ti) dM bM cU (DN (aH _ _ hl)) ?_).mono λv w' hp=>hp.lift aG;have hz:=DI (aH _ _ hl) w;simp only[execOp,ho,Ake,Instr.alloc,hz,Y5,newVar,newRow,newObj,Sem.run,A4t];rfl
   ·simp at h
  ·simp at h
 case h_2 t y ho=>
  split at h
  ·rename_i d hd;split at h
   ·split at h
    ·rename_i z hz;split at h
     ·rename_i cs bZ;split at h
      ·rename_i ts fS;simp at h;obtain⟨rfl,rfl,rfl⟩:=h;obtain⟨iT,pZ⟩:=K7 (AF he hz) bZ;obtain⟨t1,t2⟩:=iT.allT fS;have hm:=More.alloc w (.cells (a.eval y).cells t);obtain⟨k1,k2,k3⟩:=Fs hi hm;refine BN.value (v:=.pointer (some ⟨w.heap.size,0,none⟩)) (w':=w.alloc (.cells (a.eval y).cells t)) ?_ ⟨g,k1,?_,k2,he.mono k3⟩
       ·simp only[execOp,ho,Ake,Instr.box,Y5,newVar,newRow,newObj,Sem.run,A4t];rfl
       ·refine .t _ _ (Aaq λi x hx=>?_);have aC:=Bu hx
        obtain⟨v,hv⟩: ∃v,(a.eval y).cells.toList[i]?=some v:=⟨(a.eval y).cells.toList[i]'(by rw[t1];exact aC),Kv _⟩
        refine⟨Al0 hi _,?_,v,?_,Av (k3 _ _ (.t _ _ (t2 i v x hv hx)))⟩
        ·exact IL pZ i (.t x) (by rw[Ox fS,CK,hx];rfl)
        ·rw[Atj,C7 hm.new,<-Agx];exact hv
      ·simp at h
     ·simp at h
    ·simp at h
   ·obtain⟨aV,σ1,g1,hk,cU,aG,dM,bM⟩:=Ho h hi he;split at hk
    ·rename_i z hz;split at hk
     ·rename_i cs bZ;simp[LO]at hk;obtain⟨rfl,rfl,rfl⟩:=hk;refine(Vm (e:=t) (u:=a.eval y) dM bM cU (K7 (AF bM hz) bZ).1 ?_).mono λv w' hp=>hp.lift aG;simp only[execOp,ho,Ake,Instr.box,Y5,newVar,newRow,newObj,Sem.run,A4t];rfl
     ·simp at hk
    ·simp at hk
  ·simp at h
 case h_3 t parts ho=>
  split at h
  ·rename_i z hz;simp at h;obtain⟨rfl,rfl,rfl⟩:=h;obtain⟨v,h1,h2⟩:=Zj (P:=P) aH he hz;refine BN.value (v:=v) (w':=w) ?_ ⟨g,A3h _ _,h2,hi,he⟩;simp only[execOp,ho,Ake];simp[h1]
  ·simp at h
 case h_4 t n parts ho=>
  split at h
  ·rename_i z hz;simp at h;obtain⟨rfl,rfl,rfl⟩:=h;obtain⟨v,w',h1,h2,h3,h4,h5,_⟩:=JI (P:=P) aH hi he hz;refine BN.value (v:=v) (w':=w') ?_ ⟨g,h2,h3,h4,he.mono h5⟩;simp only[execOp,ho,Ake];simp[h1]
  ·simp at h
 case h_5 t p ho=>
  split at h
  ·rename_i q hq;split at h
   ·rename_i z hz;simp at h;obtain⟨rfl,rfl,rfl⟩:=h;obtain⟨v,h1,h2⟩:=Sr (P:=P) aH hi (AF he hq) hz;exact BN.value (v:=v) (w':=w) (by simp[execOp,ho,h1]) ⟨g,A3h _ _,h2,hi,he⟩
   ·simp at h
  ·simp at h
 case h_6 t p y ho=>
  split at h
  ·rename_i q hq;split at h
   ·rename_i z hz;split at h
    ·rename_i σ1 hs;simp at h;obtain⟨rfl,rfl,rfl⟩:=h;obtain⟨w',h1,h2,h3,h4⟩:=KS (P:=P) aH hi (AF he hq) (AF he hz) hs;exact BN.skip (w':=w') (by simp[execOp,ho,h1]) ⟨g,h2,.t _ _ .undef,h3,he.mono h4⟩
    ·simp at h
   ·simp at h
  ·simp at h
 case h_7 t l k ho=>
  split at h
  ·rename_i d hd;split at h
   ·rename_i p hp;split at h
    ·rename_i q hq;obtain⟨v,w',h1,h2⟩:=Abb (P:=P) aH hi he (AF he hp) (AF he hq) h;exact BN.value (v:=v) (w':=w') (by simp[execOp,ho,h1]) h2
    ·simp at h
   ·simp at h
  ·simp at h
 case h_8 cl ho=>
  split at h
  ·rename_i hc;split at h
   ·rename_i s y dW;split at h
    ·rename_i p hp;split at h
     ·rename_i q hq;split at h
      ·rename_i t t' fS;split at h
       ·rename_i d hd;split at h
        ·rename_i qI;subst qI;obtain⟨v,w',h1,h2⟩:=W8 (P:=P) (ty:=o.type) aH hi he (AF he hp) (AF he hq) h;refine BN.value (v:=v) (w':=w') ?_ h2;have lP:cl.args= #[s,y]:=by apply A5v;simp[dW]
         have tQ:cl.argTypes= #[t,t]:=by apply A5v;simp[fS]
         simp[execOp,ho,resolve,hc,invoke,builtin,lP,tQ,h1]
        ·simp at h
       ·simp at h
      ·simp at h
     ·simp at h
    ·simp at h
   ·simp at h
  ·simp at h
 case h_9=>simp at h
end
end Go.Am
namespace Go.Am
mutual
def BG (b sz:Nat) (es:List (List T)):AV->AV
 |.t x=>.t x
 |.top=>.top
 |.ref c o=>bif Nat.beq c b then .top else .ref c o
 |.eref c s k o=>bif Nat.beq c b then .top else .eref c s k o
 |.mref c=>bif Nat.beq c b then .top else .mref c
 |.row c s lo len=>bif Nat.beq c b then(if s=sz then(if lo+len<=es.length then .t (.slice .any sz ((es.drop lo).take len))else .top)else .top)else .row c s lo len
 |.iface t x=>match BG b sz es x with
  |.t y=>.t (.iface t y)
  |y=>.iface t y
 |.func fn f c=>LU fn (F6 b sz es f) (F6 b sz es c)
 |.agg cs=>.agg (F6 b sz es cs)
 |.tuple cs=>.tuple (F6 b sz es cs)
def F6 (b sz:Nat) (es:List (List T)):List AV->List AV
 |[]=>[]
 |x::r=>BG b sz es x::F6 b sz es r
end
def IM (b sz:Nat) (es:List (List T)):A2->A2
 |[]=>[]
 |(t,x)::r=>(t,BG b sz es x)::IM b sz es r
def Gf (b sz:Nat) (es:List (List T)):St->St
 |[]=>[]
 |(c,B)::r=>bif Nat.beq c b then Gf b sz es r else(c,match B with
  |.cells cs=>.cells (F6 b sz es cs)
  |.loop l st pe ps asg bd n env=>.loop l st pe ps asg bd n (IM b sz es env)
  |.mp ks xs=>.mp ks (F6 b sz es xs)
  |B=>B)::Gf b sz es r
def Aq9 (b sz:Nat) (es:List (List T)) (B:Blk):Blk:=match B with
  |.cells cs=>.cells (F6 b sz es cs)
  |.loop l st pe ps asg bd n env=>.loop l st pe ps asg bd n (IM b sz es env)
  |.mp ks xs=>.mp ks (F6 b sz es xs)
  |B=>B
theorem FB (b sz:Nat) (es:List (List T)): ∀l,(F6 b sz es l).length=l.length
 |[]=>by simp[F6]
 |x::r=>by simp[F6,FB b sz es r]
theorem FC (b sz:Nat) (es:List (List T)): ∀(l:List AV) (i:Nat),(F6 b sz es l)[i]?=(l[i]?).map (BG b sz es)
 |[],i=>by simp[F6]
 |x::r,0=>by simp[F6]
 |x::r,i+1=>by simp[F6,FC b sz es r i]
theorem FD (b sz:Nat) (es:List (List T)): ∀(l:A2) (t:Nat),look (IM b sz es l) t=(look l t).map (BG b sz es)
 |[],t=>by simp[IM,look]
 |(k,x)::r,t=>by
  simp only[IM];rw[Ap,Ap,FD b sz es r t];by_cases h:k=t<;>simp[h]
theorem CF {a b:Nat} (h:a≠b):Nat.beq a b=false:=by
 cases hb:Nat.beq a b with
 |false=>rfl
 |true=>exact absurd (A4f hb) h
theorem DU (b sz:Nat) (es:List (List T)): ∀(l:St) (c:Nat),look (Gf b sz es l) c=if c=b then none else(look l c).map (Aq9 b sz es)
 |[],c=>by simp[Gf,look]
 |(k,B)::r,c=>by
  by_cases h:k=b
  ·subst h;simp only[Gf,A7a,A6x];rw[DU k sz es r c,Ap];by_cases h2:c=k
   ·simp[h2]
   ·simp[h2,A6f h2]
  ·simp only[Gf,CF h,A61];rw[Ap,Ap,DU b sz es r c];by_cases h2:k=c
   ·subst h2;simp[h];cases B<;>rfl
   ·simp[h2]
def G.frz (g:G) (b:Nat):G:={g with β:=λc=>if c=b then none else g.β c,own:=λaA=>g.own aA/\g.β b≠some (some aA)}
section
variable {w:World} {g:G} {σ:St}
theorem Ad6 (hi:Inv w g σ) {b sz:Nat} {es:List (List T)} (hb:look σ b=some (.grow sz es)) {g':G} (cV:Jh w g.M w g'.M) (hβ: ∀c p,c≠b->g.β c=some p->g'.β c=some p)
  (aL: ∀aA,g.β b=some (some aA)-> ∀i,i<es.flatten.length-> ¬g'.M aA i): ∀v x,Rel w g v x->Rel w g' v (BG b sz es x):=by
 obtain⟨aI,bA⟩:=hi.ok b _ hb;intro v x h
 induction h with
 |t v x h=>simp only[BG];exact .t _ _ (h.mono cV)
 |top v=>simp only[BG];exact .top v
 |ref c o aA h=>
  simp only[BG];by_cases e:c=b
  ·subst e;simp;exact .top _
  ·rw[CF e];exact .ref _ _ _ (hβ _ _ e h)
 |eref c s k o aA h=>
  simp only[BG];by_cases e:c=b
  ·subst e;simp;exact .top _
  ·rw[CF e];exact .eref _ _ _ _ _ (hβ _ _ e h)
 |mref c aA h=>
  simp only[BG];by_cases e:c=b
  ·subst e;simp;exact .top _
  ·rw[CF e];exact .mref _ _ (hβ _ _ e h)
 |rowNil c s a0 jN h=>
  simp only[BG];by_cases e:c=b
  ·subst e;simp only[A7a,A6x];split
   ·simp
    cases a0 with
    |none=>exact .t _ _ (.sliceNil _ _)
    |some x=>exact .t _ _ (.sliceZ x _ _ Ac)
   ·exact .top _
  ·rw[CF e];exact .rowNil _ _ _ jN (hβ _ _ e h)
 |row c s lo len aA o cap e0 n h hs ho hl hn=>
  simp only[BG];by_cases e:c=b
  ·subst e;simp only[A7a,A6x];split
   ·rename_i aN;subst aN;split
    ·rename_i aO;rcases bA with⟨h1,_⟩|⟨aX,vs,et,h1,h2,h3,h4,h5⟩
     ·rw[h]at h1;cases h1
     ·rw[h]at h1;cases h1;have cX:((es.drop lo).take len).length=len:=by simp;omega
      refine .t _ _ (EA cX hl Ac Ac (λe he=>aI e (A6k (A3c he))) ?_);intro i x hx;have eK:=Do s es aI lo len i x hx;have aC:=Bu eK;have gO:=Bu hx;have hne0:len≠0:=by intro h0;subst h0;simp at gO
      have dE:o=lo*s:=by rcases ho with h'|h'<;>omega
      obtain⟨v,hv⟩: ∃v,vs[lo*s+i]?=some v:=⟨vs[lo*s+i]' Aa,A23 _⟩
      have:=h5 _ v x hv eK;refine⟨?_,this.1,v,by rw[dE,C7 h3];exact hv,this.2.mono cV⟩;exact aL aA h _ Aa
    ·exact .top _
   ·exact .top _
  ·rw[CF e];exact .row _ _ _ _ aA o cap e0 n (hβ _ _ e h) hs ho hl hn
 |iface t v x _ ih=>
  simp only[BG];split
  ·rename_i y hy;rw[hy]at ih;exact .t _ _ (.iface _ _ _ (Av ih))
  ·exact .iface _ _ _ ih
 |func fn v1 v2 x1 x2 h1 h2 _ _ i1 i2=>
  simp only[BG];refine Mr ⟨by rw[FB];exact h1,λi v x hv hx=>?_⟩ ⟨by rw[FB];exact h2,λi v x hv hx=>?_⟩
  ·rw[FC]at hx
   cases hg:x1[i]? with
   |none=>simp[hg]at hx
   |some y=>simp[hg]at hx;subst hx;exact i1 i v y hv hg
  ·rw[FC]at hx
   cases hg:x2[i]? with
   |none=>simp[hg]at hx
   |some y=>simp[hg]at hx;subst hx;exact i2 i v y hv hg
 |agg vs xs h _ ih=>
  simp only[BG];refine .agg vs _ (by rw[FB];exact h) λi v x hv hx=>?_;rw[FC]at hx
  cases hg:xs[i]? with
  |none=>simp[hg]at hx
  |some y=>simp[hg]at hx;subst hx;exact ih i v y hv hg
 |tuple vs xs h _ ih=>
  simp only[BG];refine .tuple vs _ (by rw[FB];exact h) λi v x hv hx=>?_;rw[FC]at hx
  cases hg:xs[i]? with
  |none=>simp[hg]at hx
  |some y=>simp[hg]at hx;subst hx;exact ih i v y hv hg
theorem freeze (hi:Inv w g σ) {b sz:Nat} {es:List (List T)} (hb:look σ b=some (.grow sz es)):
  Ext w g w (g.frz b)/\Inv w (g.frz b) (Gf b sz es σ)/\(∀v x,Rel w g v x->Rel w (g.frz b) v (BG b sz es x)):=by
 have c8: ¬g.bx b:=λh=>by obtain⟨cs,h'⟩:=(hi.bx _ h).2;rw[hb]at h';cases h'
 have aE: ∀c,g.bx c->c≠b:=λc hc e=>c8 (e▸hc)
 have hM: ∀c o,(g.frz b).M c o->g.M c o:=by
  rintro c o (h|h)
  ·exact .inl ⟨h.1.1,h.2⟩
  ·exact .inr h
 have cV:Jh w g.M w (g.frz b).M:=λc o v h1 h2=>⟨λh=>h1 (hM c o h),h2⟩
 have aG:Ext w g w (g.frz b):=⟨WW _,λ_ _ _=>rfl,λ_ _ h=>h.1,λ_ _=>A6h,λ_ _ h=>h,λc hc=>⟨hc,by simp[G.frz,aE c hc]⟩,⟨Y,Y,Y⟩,Hu (λ_ _ _ _ h=>h) (λ_ _ _ _ _=>rfl)⟩
 obtain⟨aI,bA⟩:=hi.ok b _ hb;have hβ: ∀c p,c≠b->g.β c=some p->(g.frz b).β c=some p:=λc p h1 h2=>by simp[G.frz,h1,h2]
 have hr: ∀v x,Rel w g v x->Rel w (g.frz b) v (BG b sz es x):=Ad6 hi hb cV hβ λaA h i _=>by
  have h2:=(EX hi h).2.1;rintro(h'|h')
  ·exact h'.1.2 h
  ·exact hi.dis _ _ h2 h'
 refine⟨aG,⟨?_,?_,?_,λaA h=>hi.lt aA (h.imp (λq=>q.1) (λq=>q)),?_,λaA o h=>hi.dis aA o h.1,hi.im_of aG.keeps,hi.lo,hi.sx.mono (WW _) Y (λaA e h ho=>⟨ho,λhc=>by rw[hi.sx.bs _ _ hc]at h;cases h⟩) (λ_ _ _ _ _=>rfl) (λc aA h=>?_) (λc L hL=>?_)⟩,hr⟩
 ·intro c C hC;rw[DU]at hC;split at hC
  ·simp at hC
  ·rename_i nQ
   cases hl:look σ c with
   |none=>simp[hl]at hC
   |some D=>
    simp only[hl,A4g,A26]at hC;subst hC;have fV:=hi.ok c D hl
    have fJ: ∀aA,g.β c=some (some aA)->g.own aA->(g.frz b).own aA:=λaA h1 h2=>⟨h2,λh=>nQ (hi.inj _ _ _ h1 h)⟩
    cases D with
    |cells cs=>
     obtain⟨aA,vs,e,h1,h2,h3,h4,h5⟩:=fV;refine⟨aA,vs,e,hβ _ _ nQ h1,fJ _ h1 h2,h3,by rw[FB];exact h4,λi v x hv hx=>?_⟩;rw[FC]at hx
     cases hg:cs[i]? with
     |none=>simp[hg]at hx
     |some y=>simp[hg]at hx;subst hx;exact hr _ _ (h5 i v y hv hg)
    |grow cO es'=>
     obtain⟨h0,h⟩:=fV;refine⟨h0,?_⟩;rcases h with⟨h1,h2⟩|⟨aA,vs,e,h1,h2,h3,h4,h5⟩
     ·exact .inl ⟨hβ _ _ nQ h1,h2⟩
     ·exact .inr ⟨aA,vs,e,hβ _ _ nQ h1,fJ _ h1 h2,h3,h4,λi v x hv hx=>⟨(h5 i v x hv hx).1,(h5 i v x hv hx).2.mono cV⟩⟩
    |rights L=>exact hβ _ _ nQ fV
    |loop l st pe ps asg bd n env=>
     obtain⟨r,h1,h2,h3,h4,h5,h6⟩:=fV;refine⟨r,hβ _ _ nQ h1,fJ _ h1 h2,h3,h4,h5,λt x ht=>?_⟩;rw[FD]at ht
     cases hg:look env t with
     |none=>simp[hg]at ht
     |some y=>simp[hg]at ht;subst ht;exact hr _ _ (h6 t y hg)
    |mp ks ys=>
     obtain⟨aA,fs,clk,h1,h2,h3,h4,h5,h6,h7⟩:=fV;refine⟨aA,fs,clk,hβ _ _ nQ h1,fJ _ h1 h2,h3,h4,by rw[FB];exact h5,λi e x he hx=>(h6 i e x he hx).mono cV,λi e x he hx=>?_⟩;rw[FC]at hx
     cases hg:ys[i]? with
     |none=>simp[hg]at hx
     |some y=>simp[hg]at hx;subst hx;exact hr _ _ (h7 i e y he hg)
 ·intro c;rw[DU];by_cases e:c=b
  ·simp[e,G.frz]
  ·simp only[Ug e,G.frz];rw[<-hi.dom c];cases look σ c<;>rfl
 ·intro c c' aA h1 h2;simp only[G.frz]at h1 h2;split at h1
  ·cases h1
  ·split at h2
   ·cases h2
   ·exact hi.inj _ _ _ h1 h2
 ·intro c hc;obtain⟨h1,cs,h2⟩:=hi.bx c hc;exact⟨h1,F6 b sz es cs,by rw[DU,Ug (aE c hc),h2];rfl⟩
 ·simp only[G.frz]at h;split at h
  ·cases h
  ·exact .inl ⟨c,h⟩
 ·rw[DU]at hL;split at hL
  ·cases hL
  ·cases hl:look σ c with
   |none=>simp[hl]at hL
   |some D=>
    simp only[hl,A4g,A26]at hL;cases D<;>simp[Aq9]at hL
    subst hL;rfl
end
end Go.Am
namespace Go.Am
mutual
def AV.free:AV->Bool
 |.t _=>true
 |.top=>true
 |.ref _ _=>false
 |.eref _ _ _ _=>false
 |.mref _=>false
 |.row _ _ _ _=>false
 |.iface _ x=>x.free
 |.func _ f c=>ED f&&ED c
 |.agg cs=>ED cs
 |.tuple cs=>ED cs
def ED:List AV->Bool
 |[]=>true
 |x::r=>x.free&&ED r
end
theorem Ft: ∀{l:List AV},ED l=true-> ∀(i:Nat) x,l[i]?=some x->x.free=true
 |[],_,i,x,h=>by simp at h
 |y::r,hf,i,x,h=>by
  simp only[ED,Qp]at hf
  cases i with
  |zero=>simp at h;subst h;exact hf.1
  |succ i=>simp at h;exact Ft hf.2 i x h
theorem Rel.free {w w':World} {g g':G} (hk:Jh w g.M w' g'.M) {v:Value} {x:AV} (h:Rel w g v x):x.free=true->Rel w' g' v x:=by
 induction h with
 |t v x h=>exact λ_=>.t v x (h.mono hk)
 |top v=>exact λ_=>.top v
 |ref b off aA h=>intro hh;simp[AV.free]at hh
 |eref b sz k off aA h=>intro hh;simp[AV.free]at hh
 |mref b aA h=>intro hh;simp[AV.free]at hh
 |rowNil b sz a ha h=>intro hh;simp[AV.free]at hh
 |row b sz lo len aA o cap e n h dS ho hl hn=>intro hh;simp[AV.free]at hh
 |iface t v x _ ih=>intro hh;simp only[AV.free]at hh;exact .iface t v x (ih hh)
 |func fn v1 v2 x1 x2 h1 h2 _ _ i1 i2=>
  intro hh;simp only[AV.free,Qp]at hh;exact .func fn v1 v2 x1 x2 h1 h2 (λi v x a b=>i1 i v x a b (Ft hh.1 i x b)) (λi v x a b=>i2 i v x a b (Ft hh.2 i x b))
 |agg vs xs h _ ih=>intro hh;simp only[AV.free]at hh;exact .agg vs xs h (λi v x a b=>ih i v x a b (Ft hh i x b))
 |tuple vs xs h _ ih=>intro hh;simp only[AV.free]at hh;exact .tuple vs xs h (λi v x a b=>ih i v x a b (Ft hh i x b))
mutual
def WK:AV->AV
 |.t x=>.t x
 |.top=>.top
 |.ref c o=>.ref (2*c+1) o
 |.eref c s k o=>.eref (2*c+1) s k o
 |.mref c=>.mref (2*c+1)
 |.row c s lo len=>.row (2*c+1) s lo len
 |.iface t x=>.iface t (WK x)
 |.func fn f c=>.func fn (TV f) (TV c)
 |.agg cs=>.agg (TV cs)
 |.tuple cs=>.tuple (TV cs)
def TV:List AV->List AV
 |[]=>[]
 |x::r=>WK x::TV r
end
def KV:List (Nat×AV)->List (Nat×AV)
 |[]=>[]
 |(t,x)::r=>(t,WK x)::KV r
theorem Vv: ∀(l:List (Nat×AV)) (t:Nat),look (KV l) t=(look l t).map WK
 |[],t=>by simp[KV,look]
 |(k,x)::r,t=>by
  simp only[KV];rw[Ap,Ap,Vv r t];split<;>rfl
def Z5:St->St
 |[]=>[]
 |(c,.cells cs)::r=>(2*c+1,.cells (TV cs))::Z5 r
 |(c,.grow sz es)::r=>(2*c+1,.grow sz es)::Z5 r
 |(c,.rights L)::r=>(2*c+1,.rights L)::Z5 r
 |(c,.loop l st pe ps asg bd n env)::r=>(2*c+1,.loop l st pe ps asg bd n (KV env))::Z5 r
 |(c,.mp ks xs)::r=>(2*c+1,.mp ks (TV xs))::Z5 r
def Re (B:Blk):Blk:=match B with
 |.cells cs=>.cells (TV cs)
 |.grow sz es=>.grow sz es
 |.rights L=>.rights L
 |.loop l st pe ps asg bd n env=>.loop l st pe ps asg bd n (KV env)
 |.mp ks xs=>.mp ks (TV xs)
mutual
def Ge:AV->AV
 |.t x=>.t x
 |.top=>.top
 |.ref c o=>bif Nat.beq (c % 2) 1 then .ref (c/2) o else .top
 |.eref c s k o=>bif Nat.beq (c % 2) 1 then .eref (c/2) s k o else .top
 |.mref c=>bif Nat.beq (c % 2) 1 then .mref (c/2)else .top
 |.row c s lo len=>bif Nat.beq (c % 2) 1 then .row (c/2) s lo len else .top
 |.iface t x=>.iface t (Ge x)
 |.func fn f c=>.func fn (Hq f) (Hq c)
 |.agg cs=>.agg (Hq cs)
 |.tuple cs=>.tuple (Hq cs)
def Hq:List AV->List AV
 |[]=>[]
 |x::r=>Ge x::Hq r
end
def Vg:List (Nat×AV)->List (Nat×AV)
 |[]=>[]
 |(t,x)::r=>(t,Ge x)::Vg r
theorem Vf: ∀(l:List (Nat×AV)) (t:Nat),look (Vg l) t=(look l t).map Ge
 |[],t=>by simp[Vg,look]
 |(k,x)::r,t=>by
  simp only[Vg];rw[Ap,Ap,Vf r t];split<;>rfl
def Dg:St->St
 |[]=>[]
 |(c,.cells cs)::r=>bif Nat.beq (c % 2) 1 then(c/2,.cells (Hq cs))::Dg r else Dg r
 |(c,.grow sz es)::r=>bif Nat.beq (c % 2) 1 then(c/2,.grow sz es)::Dg r else Dg r
 |(c,.rights L)::r=>bif Nat.beq (c % 2) 1 then(c/2,.rights L)::Dg r else Dg r
 |(c,.loop l st pe ps asg bd n env)::r=>bif Nat.beq (c % 2) 1 then(c/2,.loop l st pe ps asg bd n (Vg env))::Dg r else Dg r
 |(c,.mp ks xs)::r=>bif Nat.beq (c % 2) 1 then(c/2,.mp ks (Hq xs))::Dg r else Dg r
def Aee (B:Blk):Blk:=match B with
 |.cells cs=>.cells (Hq cs)
 |.grow sz es=>.grow sz es
 |.rights L=>.rights L
 |.loop l st pe ps asg bd n env=>.loop l st pe ps asg bd n (Vg env)
 |.mp ks xs=>.mp ks (Hq xs)
theorem IQ: ∀l,(TV l).length=l.length
 |[]=>by simp[TV]
 |x::r=>by simp[TV,IQ r]
theorem IR: ∀(l:List AV) (i:Nat),(TV l)[i]?=(l[i]?).map WK
 |[],i=>by simp[TV]
 |x::r,0=>by simp[TV]
 |x::r,i+1=>by simp[TV,IR r i]
theorem GG: ∀l,(Hq l).length=l.length
 |[]=>by simp[Hq]
 |x::r=>by simp[Hq,GG r]
theorem GH: ∀(l:List AV) (i:Nat),(Hq l)[i]?=(l[i]?).map Ge
 |[],i=>by simp[Hq]
 |x::r,0=>by simp[Hq]
 |x::r,i+1=>by simp[Hq,GH r i]
theorem Lp: ∀(l:St) (c:Nat),look (Z5 l) c=if c % 2=1 then(look l (c/2)).map Re else none
 |[],c=>by simp[Z5,look]
 |(k,B)::r,c=>by
  have ih:=Lp r c;have e:Z5 ((k,B)::r)=(2*k+1,Re B)::Z5 r:=by cases B<;>rfl
  rw[e,Ap,Ap,ih];by_cases h:2*k+1=c
  ·have h1:c % 2=1:=Aa;have h2:k=c/2:=Aa;rw[WU h,WU h1,WU h2];rfl
  ·by_cases h1:c % 2=1
   ·have h2: ¬k=c/2:=Aa;simp[h,h1,h2]
   ·simp[h,h1]
theorem I5: ∀(l:St) (c:Nat),look (Dg l) c=(look l (2*c+1)).map Aee
 |[],c=>by simp[Dg,look]
 |(k,B)::r,c=>by
  have ih:=I5 r c;rw[Ap];by_cases h:k % 2=1
  ·have e:Dg ((k,B)::r)=(k/2,Aee B)::Dg r:=by cases B<;>simp[Dg,h,Aee]
   rw[e,Ap,ih];by_cases h2:k=2*c+1
   ·have:k/2=c:=Aa;rw[WU h2,WU this];rfl
   ·have: ¬k/2=c:=Aa;simp[h2,this]
  ·have hb:Nat.beq (k % 2) 1=false:=CF h;have e:Dg ((k,B)::r)=Dg r:=by cases B<;>simp[Dg,hb]
   have h2: ¬k=2*c+1:=Aa;rw[e,ih];simp[h2]
def G.up (g:G) (σ:St):G:={β:=λb=>if b % 2=1 then g.β (b/2)else none,own:=g.own,oth:=g.oth,sp:=g.sp,bx:=λb=>b % 2=1/\ ∃cs,look σ (b/2)=some (.cells cs)}
def G.down (g' g:G):G:={β:=λb=>g'.β (2*b+1),own:=g'.own,oth:=g'.oth,sp:=g'.sp,bx:=g.bx,lo:=g.lo}
section
variable {w w':World} {g g':G} {σ σ':St}
theorem Rm {v:Value} {x:AV} (h:Rel w g v x):Rel w (g.up σ) v (WK x):=by
 have hβ: ∀c p,g.β c=some p->(g.up σ).β (2*c+1)=some p:=λc p h=>by
  have h1:(2*c+1) % 2=1:=Aa;have h2:(2*c+1)/2=c:=Aa;simp[G.up,h1,h2,h]
 induction h with
 |t v x h=>simp only[WK];exact .t _ _ h
 |top v=>simp only[WK];exact .top v
 |ref c o aA h=>simp only[WK];exact .ref _ _ _ (hβ _ _ h)
 |eref c s k o aA h=>simp only[WK];exact .eref _ _ _ _ _ (hβ _ _ h)
 |mref c aA h=>simp only[WK];exact .mref _ _ (hβ _ _ h)
 |rowNil c s a ha h=>simp only[WK];exact .rowNil _ _ _ ha (hβ _ _ h)
 |row c s lo len aA o cap e0 n h hs ho hl hn=>simp only[WK];exact .row _ _ _ _ aA o cap e0 n (hβ _ _ h) hs ho hl hn
 |iface t v x _ ih=>simp only[WK];exact .iface _ _ _ ih
 |func fn v1 v2 x1 x2 h1 h2 _ _ i1 i2=>
  simp only[WK];refine .func fn v1 v2 _ _ (by rw[IQ];exact h1) (by rw[IQ];exact h2) (λi v x hv hx=>?_) (λi v x hv hx=>?_)
  ·rw[IR]at hx
   cases hg:x1[i]? with
   |none=>simp[hg]at hx
   |some y=>simp[hg]at hx;subst hx;exact i1 i v y hv hg
  ·rw[IR]at hx
   cases hg:x2[i]? with
   |none=>simp[hg]at hx
   |some y=>simp[hg]at hx;subst hx;exact i2 i v y hv hg
 |agg vs xs h _ ih=>
  simp only[WK];refine .agg vs _ (by rw[IQ];exact h) λi v x hv hx=>?_;rw[IR]at hx
  cases hg:xs[i]? with
  |none=>simp[hg]at hx
  |some y=>simp[hg]at hx;subst hx;exact ih i v y hv hg
 |tuple vs xs h _ ih=>
  simp only[WK];refine .tuple vs _ (by rw[IQ];exact h) λi v x hv hx=>?_;rw[IR]at hx
  cases hg:xs[i]? with
  |none=>simp[hg]at hx
  |some y=>simp[hg]at hx;subst hx;exact ih i v y hv hg
theorem Oq {v:Value} {x:AV} (h:Rel w g' v x):Rel w (g'.down g) v (Ge x):=by
 have hβ: ∀c p,c % 2=1->g'.β c=some p->(g'.down g).β (c/2)=some p:=λc p h1 h=>by
  have h2:2*(c/2)+1=c:=Aa;simp[G.down,h2,h]
 induction h with
 |t v x h=>simp only[Ge];exact .t _ _ h
 |top v=>simp only[Ge];exact .top v
 |ref c o aA h=>
  simp only[Ge];by_cases e:c % 2=1
  ·rw[e];exact .ref _ _ _ (hβ _ _ e h)
  ·rw[CF e];exact .top _
 |eref c s k o aA h=>
  simp only[Ge];by_cases e:c % 2=1
  ·rw[e];exact .eref _ _ _ _ _ (hβ _ _ e h)
  ·rw[CF e];exact .top _
 |mref c aA h=>
  simp only[Ge];by_cases e:c % 2=1
  ·rw[e];exact .mref _ _ (hβ _ _ e h)
  ·rw[CF e];exact .top _
 |rowNil c s a ha h=>
  simp only[Ge];by_cases e:c % 2=1
  ·rw[e];exact .rowNil _ _ _ ha (hβ _ _ e h)
  ·rw[CF e];exact .top _
 |row c s lo len aA o cap e0 n h hs ho hl hn=>
  simp only[Ge];by_cases e:c % 2=1
  ·rw[e];exact .row _ _ _ _ aA o cap e0 n (hβ _ _ e h) hs ho hl hn
  ·rw[CF e];exact .top _
 |iface t v x _ ih=>simp only[Ge];exact .iface _ _ _ ih
 |func fn v1 v2 x1 x2 h1 h2 _ _ i1 i2=>
  simp only[Ge];refine .func fn v1 v2 _ _ (by rw[GG];exact h1) (by rw[GG];exact h2) (λi v x hv hx=>?_) (λi v x hv hx=>?_)
  ·rw[GH]at hx
   cases hg:x1[i]? with
   |none=>simp[hg]at hx
   |some y=>simp[hg]at hx;subst hx;exact i1 i v y hv hg
  ·rw[GH]at hx
   cases hg:x2[i]? with
   |none=>simp[hg]at hx
   |some y=>simp[hg]at hx;subst hx;exact i2 i v y hv hg
 |agg vs xs h _ ih=>
  simp only[Ge];refine .agg vs _ (by rw[GG];exact h) λi v x hv hx=>?_;rw[GH]at hx
  cases hg:xs[i]? with
  |none=>simp[hg]at hx
  |some y=>simp[hg]at hx;subst hx;exact ih i v y hv hg
 |tuple vs xs h _ ih=>
  simp only[Ge];refine .tuple vs _ (by rw[GG];exact h) λi v x hv hx=>?_;rw[GH]at hx
  cases hg:xs[i]? with
  |none=>simp[hg]at hx
  |some y=>simp[hg]at hx;subst hx;exact ih i v y hv hg
theorem ZC (hi:Inv w g σ):Inv w (g.up σ) (Z5 σ):=by
 refine⟨?_,?_,?_,hi.lt,?_,hi.dis,hi.im,A5t _,?_⟩
 ·intro b B hB;rw[Lp]at hB;split at hB
  ·rename_i m6
   cases hl:look σ (b/2)with
   |none=>simp[hl]at hB
   |some C=>
    simp[hl]at hB;subst hB;have bA:=hi.ok _ C hl;have hβ: ∀p,g.β (b/2)=some p->(g.up σ).β b=some p:=λp h=>by simp[G.up,m6,h]
    cases C with
    |cells cs=>
     obtain⟨aA,vs,e,h1,h2,h3,h4,h5⟩:=bA;refine⟨aA,vs,e,hβ _ h1,h2,h3,by rw[IQ];exact h4,λi v x hv hx=>?_⟩;rw[IR]at hx
     cases hg:cs[i]? with
     |none=>simp[hg]at hx
     |some y=>simp[hg]at hx;subst hx;exact Rm (h5 i v y hv hg)
    |grow sz es=>
     obtain⟨h0,h⟩:=bA;refine⟨h0,?_⟩;rcases h with⟨h1,h2⟩|⟨aA,vs,e,h1,h2,h3,h4,h5⟩
     ·exact .inl ⟨hβ _ h1,h2⟩
     ·exact .inr ⟨aA,vs,e,hβ _ h1,h2,h3,h4,h5⟩
    |rights L=>exact hβ _ bA
    |loop l st pe ps asg bd n env=>
     obtain⟨r,h1,h2,h3,h4,h5,h6⟩:=bA;refine⟨r,hβ _ h1,h2,h3,h4,h5,λt x ht=>?_⟩;rw[Vv]at ht
     cases hg:look env t with
     |none=>simp[hg]at ht
     |some y=>simp[hg]at ht;subst ht;exact Rm (h6 t y hg)
    |mp ks ys=>
     obtain⟨aA,fs,clk,h1,h2,h3,h4,h5,h6,h7⟩:=bA;refine⟨aA,fs,clk,hβ _ h1,h2,h3,h4,by rw[IQ];exact h5,h6,λi e x he hx=>?_⟩;rw[IR]at hx
     cases hg:ys[i]? with
     |none=>simp[hg]at hx
     |some y=>simp[hg]at hx;subst hx;exact Rm (h7 i e y he hg)
  ·simp at hB
 ·intro b;rw[Lp];by_cases h:b % 2=1
  ·simp only[h,Xs,G.up];rw[<-hi.dom];cases look σ (b/2)<;>rfl
  ·simp[h,G.up]
 ·intro b b' aA h1 h2;simp only[G.up]at h1 h2;split at h1
  ·split at h2
   ·have:=hi.inj _ _ _ h1 h2;omega
   ·cases h2
  ·cases h1
 ·rintro b ⟨h1,cs,h2⟩;exact⟨h1,TV cs,by rw[Lp,WU h1,h2];rfl⟩
 ·have hσ: ∀b L,look (Z5 σ) b=some (.rights L)->b % 2=1/\look σ (b/2)=some (.rights L):=by
   intro b L hL;rw[Lp]at hL;split at hL
   ·rename_i m6;refine⟨m6,?_⟩
    cases hl:look σ (b/2)with
    |none=>simp[hl]at hL
    |some D=>
     simp only[hl,A4g,A26]at hL;cases D<;>simp[Re]at hL
     subst hL;rfl
   ·cases hL
  refine⟨hi.sx.lt,λc aA h=>?_,λb b' L L' aA e e' h1 h2 h3 h4=>?_,λb L hL=>hi.sx.ok _ L (hσ b L hL).2⟩
  ·simp only[G.up]at h;split at h
   ·exact hi.sx.bs _ aA h
   ·cases h
  ·have k1:=hσ _ _ h1;have k2:=hσ _ _ h2;have:=hi.sx.one _ _ _ _ _ _ _ k1.2 k2.2 h3 h4;omega
theorem YX (hi:Inv w g σ) (dC:Inv w' g' σ') (hx:Ext w (g.up σ) w' g'):Inv w' (g'.down g) (Dg σ'):=by
 refine⟨?_,?_,?_,dC.lt,?_,dC.dis,dC.im,A47 hi.lo hx.size,?_⟩
 ·intro b B hB;rw[I5]at hB
  cases hl:look σ' (2*b+1)with
  |none=>simp[hl]at hB
  |some C=>
   simp[hl]at hB;subst hB;have bA:=dC.ok _ C hl
   cases C with
   |cells cs=>
    obtain⟨aA,vs,e,h1,h2,h3,h4,h5⟩:=bA;refine⟨aA,vs,e,h1,h2,h3,by rw[GG];exact h4,λi v x hv hx=>?_⟩;rw[GH]at hx
    cases hg:cs[i]? with
    |none=>simp[hg]at hx
    |some y=>simp[hg]at hx;subst hx;exact Oq (h5 i v y hv hg)
   |grow sz es=>
    obtain⟨h0,h⟩:=bA;refine⟨h0,?_⟩;rcases h with⟨h1,h2⟩|⟨aA,vs,e,h1,h2,h3,h4,h5⟩
    ·exact .inl ⟨h1,h2⟩
    ·exact .inr ⟨aA,vs,e,h1,h2,h3,h4,h5⟩
   |rights L=>exact bA
   |loop l st pe ps asg bd n env=>
    obtain⟨r,h1,h2,h3,h4,h5,h6⟩:=bA;refine⟨r,h1,h2,h3,h4,h5,λt x ht=>?_⟩;rw[Vf]at ht
    cases hg:look env t with
    |none=>simp[hg]at ht
    |some y=>simp[hg]at ht;subst ht;exact Oq (h6 t y hg)
   |mp ks ys=>
    obtain⟨aA,fs,clk,h1,h2,h3,h4,h5,h6,h7⟩:=bA;refine⟨aA,fs,clk,h1,h2,h3,h4,by rw[GG];exact h5,h6,λi e x he hx=>?_⟩;rw[GH]at hx
    cases hg:ys[i]? with
    |none=>simp[hg]at hx
    |some y=>simp[hg]at hx;subst hx;exact Oq (h7 i e y he hg)
 ·intro b;rw[I5];have:=dC.dom (2*b+1);simp only[G.down];rw[<-this];cases look σ' (2*b+1)<;>rfl
 ·intro b b' aA h1 h2;have:=dC.inj _ _ _ h1 h2;omega
 ·intro b hb;obtain⟨h1,cs,h2⟩:=hi.bx b hb;have h3:(2*b+1) % 2=1:=Aa;have h4:(2*b+1)/2=b:=Aa
  have lU:(g.up σ).bx (2*b+1):=⟨h3,cs,by rw[h4];exact h2⟩
  obtain⟨_,cs',h5⟩:=dC.bx _ (hx.bx _ lU).1;exact⟨h1,Hq cs',by rw[I5,h5];rfl⟩
 ·have hσ: ∀b L,look (Dg σ') b=some (.rights L)->look σ' (2*b+1)=some (.rights L):=by
   intro b L hL;rw[I5]at hL
   cases hl:look σ' (2*b+1)with
   |none=>simp[hl]at hL
   |some D=>
    simp only[hl,A4g,A26]at hL;cases D<;>simp[Aee]at hL
    subst hL;rfl
  refine⟨dC.sx.lt,λc aA h=>dC.sx.bs _ aA h,λb b' L L' aA e e' h1 h2 h3 h4=>?_,λb L hL=>dC.sx.ok _ L (hσ b L hL)⟩;have:=dC.sx.one _ _ _ _ _ _ _ (hσ _ _ h1) (hσ _ _ h2) h3 h4;omega
theorem YY (hi:Inv w g σ) (hx:Ext w (g.up σ) w' g'):Ext w g w' (g'.down g):=by
 refine⟨hx.size,hx.keep,hx.own,hx.oth,hx.shape,λb hb=>⟨hb,?_⟩,⟨Y,hx.lo.2⟩,hx.sp⟩;obtain⟨h1,cs,h2⟩:=hi.bx b hb;have h3:(2*b+1) % 2=1:=Aa;have h4:(2*b+1)/2=b:=Aa
 have lU:(g.up σ).bx (2*b+1):=⟨h3,cs,by rw[h4];exact h2⟩
 have:=(hx.bx _ lU).2;simp only[G.down,this,G.up,h3,Xs,h4]
mutual
def Mm (σ:St):AV->Bool
 |.t _=>true
 |.top=>true
 |.ref c _=>match look σ c with
  |some (.cells _)=>true
  |_=>false
 |.eref _ _ _ _=>false
 |.mref _=>false
 |.row _ _ _ _=>false
 |.iface _ x=>Mm σ x
 |.func _ f c=>Acf σ f&&Acf σ c
 |.agg cs=>Acf σ cs
 |.tuple cs=>Acf σ cs
def Acf (σ:St):List AV->Bool
 |[]=>true
 |x::r=>Mm σ x&&Acf σ r
end
theorem L9 {σ:St}: ∀{l:List AV},Acf σ l=true-> ∀(i:Nat) x,l[i]?=some x->Mm σ x=true
 |[],_,i,x,h=>by simp at h
 |y::r,hf,i,x,h=>by
  simp only[Acf,Qp]at hf
  cases i with
  |zero=>simp at h;subst h;exact hf.1
  |succ i=>simp at h;exact L9 hf.2 i x h
def TN (σ:St):A2->A2
 |[]=>[]
 |(t,x)::r=>(t,bif Mm σ x then x else .top)::TN σ r
theorem Ar5 (hx:Ext w (g.up σ) w' g') {v:Value} {x:AV} (h:Rel w g v x):Mm σ x=true->Rel w' (g'.down g) v x:=by
 induction h with
 |t v x h=>exact λ_=>.t v x (h.mono hx.keeps)
 |top v=>exact λ_=>.top v
 |ref b off aA h=>
  intro hh;simp only[Mm]at hh;split at hh
  ·rename_i cs hc;have h3:(2*b+1) % 2=1:=Aa;have h4:(2*b+1)/2=b:=Aa
   have lU:(g.up σ).bx (2*b+1):=⟨h3,cs,by rw[h4];exact hc⟩
   have:=(hx.bx _ lU).2;refine .ref _ _ aA ?_;simp only[G.down,this,G.up,h3,Xs,h4];exact h
  ·simp at hh
 |eref b sz k off aA h=>intro hh;simp[Mm]at hh
 |mref b aA h=>intro hh;simp[Mm]at hh
 |rowNil b sz a ha h=>intro hh;simp[Mm]at hh
 |row b sz lo len aA o cap e n h dS ho hl hn=>intro hh;simp[Mm]at hh
 |iface t v x _ ih=>intro hh;simp only[Mm]at hh;exact .iface t v x (ih hh)
 |func fn v1 v2 x1 x2 h1 h2 _ _ i1 i2=>
  intro hh;simp only[Mm,Qp]at hh;exact .func fn v1 v2 x1 x2 h1 h2 (λi v x a b=>i1 i v x a b (L9 hh.1 i x b)) (λi v x a b=>i2 i v x a b (L9 hh.2 i x b))
 |agg vs xs h _ ih=>intro hh;simp only[Mm]at hh;exact .agg vs xs h (λi v x a b=>ih i v x a b (L9 hh i x b))
 |tuple vs xs h _ ih=>intro hh;simp only[Mm]at hh;exact .tuple vs xs h (λi v x a b=>ih i v x a b (L9 hh i x b))
theorem Zl (σ:St): ∀(l:A2) (t:Nat),look (TN σ l) t=(look l t).map λx=>bif Mm σ x then x else .top
 |[],t=>by simp[TN,look]
 |(k,x)::r,t=>by
  simp only[TN];rw[Ap,Ap,Zl σ r t];by_cases h:k=t<;>simp[h]
theorem Aeg (hx:Ext w (g.up σ) w' g') {a:Act} {env:A2} (he:AQ w g a env):AQ w' (g'.down g) a (TN σ env):=by
 intro t x h;rw[Zl]at h
 cases hl:look env t with
 |none=>simp[hl]at h
 |some y=>
  simp only[hl,A4g,A26]at h;have hr:=he t y hl
  cases hb:Mm σ y with
  |true=>rw[hb]at h;simp at h;subst h;exact Ar5 hx hr hb
  |false=>rw[hb]at h;simp at h;subst h;exact .top _
end
end Go.Am
namespace Go.Am
inductive Rc where
 |self
 |fld (off n:Nat)
structure Conf extends Cfg where
 inv:Nat->String->Option (Nat×Rc)
 ownR:List Nat
 sp:Nat->List AV->St->Option (AV×St)
mutual
def Z6 (k:Nat):AV->AV
 |.t x=>.t x
 |.top=>.top
 |.ref c o=>.ref (c+k) o
 |.eref c s i o=>.eref (c+k) s i o
 |.mref c=>.mref (c+k)
 |.row c s lo len=>.row (c+k) s lo len
 |.iface t x=>.iface t (Z6 k x)
 |.func fn f c=>.func fn (D6 k f) (D6 k c)
 |.agg cs=>.agg (D6 k cs)
 |.tuple cs=>.tuple (D6 k cs)
def D6 (k:Nat):List AV->List AV
 |[]=>[]
 |x::r=>Z6 k x::D6 k r
end
mutual
def Z7 (σ:St):AV->Bool
 |.t _=>true
 |.top=>true
 |.ref _ _=>false
 |.eref c _ _ _=>(look σ c).isSome
 |.mref _=>false
 |.row c _ _ _=>(look σ c).isSome
 |.iface _ x=>Z7 σ x
 |.func _ f c=>VA σ f&&VA σ c
 |.agg cs=>VA σ cs
 |.tuple cs=>VA σ cs
def VA (σ:St):List AV->Bool
 |[]=>true
 |x::r=>Z7 σ x&&VA σ r
end
def KF (r:AV) (σ:St):St->St
 |[]=>[]
 |(b,_)::l=>(match r.has b with
  |true=>(match look σ b with
   |some (.grow sz es)=>(b,.grow sz es)::KF r σ l
   |_=>KF r σ l)
  |false=>KF r σ l)
def To (k:Nat):St->St
 |[]=>[]
 |(b,B)::l=>(b+k,B)::To k l
def P6 (σ:St):St->Bool
 |[]=>true
 |(b,_)::l=>(look σ b).isNone&&P6 σ l
def Lu (dst:Option Nat) (r:AV) (σ2:St) (env:A2) (σ:St):Option (AV×A2×St):=
 match r.free with
 |true=>some (r,env,σ)
 |false=>match dst with
  |some d=>match Z7 (KF r σ2 σ2) r&&P6 σ (To (2000*(d+1)) (KF r σ2 σ2))with
   |true=>some (Z6 (2000*(d+1)) r,env,To (2000*(d+1)) (KF r σ2 σ2)++σ)
   |false=>none
  |none=>none
def Te (rc:Rc) (x:T):Option AV:=
 match rc with
 |.self=>some (.t x)
 |.fld off n=>match x with
  |.agg ts=>match F9 n (ts.drop off)with
   |some ys=>some (.agg (Af ys))
   |none=>none
  |_=>none
def DG (c:Conf) (env:A2) (cl:Call):Option (Nat×List AV):=
 match cl.callee with
 |.value fo=>match ev env fo with
  |some (.t (.func (.func f) first cap))=>match YL env cl.args.toList with
   |some as=>some (f,Af first++(as++Af cap))
   |none=>none
  |some (.func (.func f) first cap)=>match YL env cl.args.toList with
   |some as=>some (f,first++(as++cap))
   |none=>none
  |_=>none
 |.invoke ro name=>match ev env ro with
  |some (.t (.iface t x))=>match c.inv t name with
   |some (f,rc)=>match Te rc x with
    |some y=>match YL env cl.args.toList with
     |some as=>some (f,y::as)
     |none=>none
    |none=>none
   |none=>none
  |some (.iface t x)=>match c.inv t name with
   |some (f,rc)=>match rc with
    |.self=>match YL env cl.args.toList with
     |some as=>some (f,x::as)
     |none=>none
    |.fld _ _=>none
   |none=>none
  |_=>none
 |.builtin _=>none
def EC:St->List AV->A2->St->List AV×A2×St
 |[],as,env,σ=>(as,env,σ)
 |(b,_)::r,as,env,σ=>match look σ b with
  |some (.grow sz es)=>match KJ b as with
   |true=>EC r (F6 b sz es as) (IM b sz es env) (Gf b sz es σ)
   |false=>EC r as env σ
  |_=>EC r as env σ
def Mf (c:Conf) (cf:Nat->List AV->St->Option (AV×St)) (dst:Option Nat) (cl:Call) (env:A2) (σ:St):Option (AV×A2×St):=
 match DG c env cl with
 |some (f,as)=>match Kl f c.own with
  |true=>match cf f (TV as) (Z5 σ)with
   |some (r,σ2)=>some (Ge r,TN σ env,Dg σ2)
   |none=>none
  |false=>match EC σ as env σ with
   |(as',env',σ')=>match ED as' with
    |true=>match cf f as' []with
     |some (r,σ2)=>Lu dst r σ2 env' σ'
     |none=>none
    |false=>match cf f (TV as) (Z5 σ)with
     |some (r,σ2)=>some (Ge r,TN σ env,Dg σ2)
     |none=>none
 |none=>none
def Ke (o:Oper) (env:A2) (σ:St):A2×St:=
 match o.op with
 |.buildSlice _ _ parts=>(match Dx env parts.toList with
  |some ps=>(EC σ (ps.map (·.2)) env σ).2
  |none=>(env,σ))
 |.store _ p x=>(match ev env p with
  |some (.eref _ _ _ _)=>(match ev env x with
   |some y=>(EC σ [y] env σ).2
   |none=>(env,σ))
  |_=>(env,σ))
 |_=>(env,σ)
def ES (c:Conf) (cf:Nat->List AV->St->Option (AV×St)) (o:Oper) (env:A2) (σ:St):Option (AV×A2×St):=
 match o.op with
 |.alloc _=>Gp c.toCfg o env σ
 |.box _ _=>Gp c.toCfg o env σ
 |.build _ _=>Gp c.toCfg o env σ
 |.buildSlice _ _ _=>(match Ke o env σ with
  |(env,σ)=>Gp c.toCfg o env σ)
 |.load _ _=>Gp c.toCfg o env σ
 |.makeSlice _ _ _=>Gp c.toCfg o env σ
 |.makeMap _ _=>VY c.toCfg o env σ
 |.insert _ _ _ _=>VY c.toCfg o env σ
 |.mapUpdate _ _ _ _=>VY c.toCfg o env σ
 |.lookup _ _ _ _=>VY c.toCfg o env σ
 |.store _ _ _=>(match Ke o env σ with
  |(env,σ)=>Gp c.toCfg o env σ)
 |.call cl=>match cl.callee with
  |.builtin .append=>Gp c.toCfg o env σ
  |.builtin .len=>(match Cj c.te o.op env with
   |some x=>some (x,env,σ)
   |none=>VY c.toCfg o env σ)
  |.builtin .delete=>VY c.toCfg o env σ
  |.builtin _=>match Cj c.te o.op env with
   |some x=>some (x,env,σ)
   |none=>none
  |.value _=>Mf c cf o.dst cl env σ
  |.invoke _ _=>Mf c cf o.dst cl env σ
 |_=>match Cj c.te o.op env with
  |some x=>some (x,env,σ)
  |none=>none
def BM (n:Nat) (dst:Option Nat) (x:AV) (env:A2):Option A2:=
 match dst with
 |some d=>match Nat.blt d n with
  |true=>some ((d,x)::env)
  |false=>none
 |none=>some env
def H7:Nat->List AV->A2
 |_,[]=>[]
 |i,x::r=>(i,x)::H7 (i+1) r
def MT:St->A2->St->A2×St
 |[],env,σ=>(env,σ)
 |(b,_)::r,env,σ=>match Nat.beq (b % 2) 0 with
  |true=>match look σ b with
   |some (.grow sz es)=>MT r (IM b sz es env) (Gf b sz es σ)
   |_=>MT r env σ
  |false=>MT r env σ
def Azw (te:TE) (env:A2) (σ:St):ResultVar->Option AV
 |.tmp t=>look env t
 |.cell t ty=>match look env t with
  |some p=>match p with
   |.ref _ _=>I6 te ty p σ
   |_=>none
  |none=>none
def Afp (te:TE) (env:A2) (σ:St):List ResultVar->Option (List AV)
 |[]=>some []
 |r::rs=>match Azw te env σ r with
  |some x=>match Afp te env σ rs with
   |some xs=>some (x::xs)
   |none=>none
  |none=>none
def OB (te:TE) (own:Bool) (rs:List ResultVar) (env:A2) (σ:St):Option (AV×St):=
 match (match own with
  |true=>(env,σ)
  |false=>MT σ env σ)with
 |(env,σ)=>match Afp te env σ rs with
  |some [x]=>some (x,σ)
  |some xs=>some (.tuple xs,σ)
  |none=>none
end Go.Am
namespace Go.Am
def Ate (P:Program) (t:Nat) (name:String) (f:Nat):Rc->Prop
 |.self=> ∀w v,(method (P.types.size+Made.depth) t v name).run P w=.ok (f,v) w
 |.fld off n=> ∀w cs,(method (P.types.size+Made.depth) t (.agg cs) name).run P w=.ok (f,.agg (cs.extract off (off+n))) w
structure ProgOk (P:Program) (c:Conf):Prop where
 te:Dr P c.te
 inv: ∀t name f rc,c.inv t name=some (f,rc)->Ate P t name f rc
 num: ∀(f:Nat) fn,P.funcs[f]?=some fn->(fn.name== "runtime.NumGoroutine")=false
 mix:P.follows .mixedOrders=true
 sp: ∀f as σ r σ',c.sp f as σ=some (r,σ')->(∃fn,P.funcs[f]?=some fn/\fn.body.isSome=true)/\ ∀(vs:List Value) (w:World) (g:G),BB w g vs as->Inv w g σ->
  Calls P f vs.toArray w λe w'=> ∃v g',e=.returned v/\Ext w g w' g'/\Rel w' g' v r/\Inv w' g' σ'
def Aoo (P:Program) (f:Nat) (as:List AV) (σ:St) (r:AV) (σ':St):Prop:=
 ∀(vs:List Value) (w:World) (g:G),BB w g vs as->Inv w g σ->
  Calls P f vs.toArray w λe w'=> ∃v g',e=.returned v/\Ext w g w' g'/\Rel w' g' v r/\Inv w' g' σ'
def O1 (P:Program) (cf:Nat->List AV->St->Option (AV×St)):Prop:=
 ∀f as σ r σ',cf f as σ=some (r,σ')->(∃fn,P.funcs[f]?=some fn/\fn.body.isSome=true)/\Aoo P f as σ r σ'
section
variable {P:Program} {c:Conf} {cf:Nat->List AV->St->Option (AV×St)} {w:World} {g:G} {σ:St}
theorem IJ (hp:ProgOk P c) {f:Nat} {fn:Func} (hf:P.funcs[f]?=some fn) (hb:fn.body.isSome=true) (args:Array Value):(callFunc f args).run P w=.ok (.enter f args) w:=by
 have hn:=hp.num f fn hf;have qV:fn.body.isNone=false:=by cases h:fn.body<;>simp_all
 simp only[callFunc,program,Ake,Sem.run,Y5,hf,hn,qV];rfl
theorem BB.append {v1 v2:List Value} {x1 x2:List AV} (h1:BB w g v1 x1) (h2:BB w g v2 x2):BB w g (v1++v2) (x1++x2):=by
 refine⟨by simp[h1.1,h2.1],λi v x hv hx=>?_⟩;by_cases h:i<v1.length
 ·rw[Abh h]at hv;rw[Abh (by rw[<-h1.1];exact h)]at hx;exact h1.2 i v x hv hx
 ·rw[Aez Aa]at hv;rw[Aez (by rw[<-h1.1];omega),<-h1.1]at hx;exact h2.2 _ v x hv hx
theorem A3k {v:Value} {vs:List Value} {x:AV} {xs:List AV} (h1:Rel w g v x) (h2:BB w g vs xs):BB w g (v::vs) (x::xs):=by
 refine⟨by simp[h2.1],λi u y hu hy=>?_⟩
 cases i with
 |zero=>simp at hu hy;subst hu;subst hy;exact h1
 |succ i=>simp at hu hy;exact h2.2 i u y hu hy
theorem Dc (hp:ProgOk P c) {a:Act} {env:A2} (he:AQ w g a env) {cl:Call} {f:Nat} {as:List AV} (h:DG c env cl=some (f,as)) {o:Oper} (ho:o.op=.call cl)
  {fn:Func} (hf:P.funcs[f]?=some fn) (hb:fn.body.isSome=true):
  ∃vs:List Value,(execOp a.eval o).run P w=.ok (.enter f vs.toArray) w/\BB w g vs as:=by
 unfold DG at h
 have dW: ∀as',YL env cl.args.toList=some as'->BB w g (cl.args.toList.map a.eval) as':=λas' h'=>by
  obtain⟨h1,h2⟩:=Oj he h';exact⟨by simpa using h1,h2⟩
 have jG:(cl.args.toList.map a.eval).toArray=cl.args.map a.eval:=by apply A5v;simp
 split at h
 ·rename_i fo hc;split at h
  ·rename_i f' first cap l7
   split at h
   ·rename_i as' has;simp at h;obtain⟨rfl,rfl⟩:=h;have hr:=Av (AF he l7);generalize hv:a.eval fo=v at hr
    cases hr with
    |func _ v1 v2 _ _ h1 h2 r1 r2=>
     refine⟨v1++(cl.args.toList.map a.eval++v2),?_,(Ik h1 r1).append ((dW _ has).append (Ik h2 r2))⟩;simp only[execOp,ho,Ake,resolve,hc,hv,Deferred.ofValue,A4t,Y5,invoke];rw[IJ hp hf hb];congr 2;rw[<-jG];apply A5v;simp
   ·simp at h
  ·rename_i f' first cap l7
   split at h
   ·rename_i as' has;simp at h;obtain⟨rfl,rfl⟩:=h;have hr:=AF he l7;generalize hv:a.eval fo=v at hr
    cases hr with
    |func _ v1 v2 _ _ h1 h2 r1 r2=>
     refine⟨v1++(cl.args.toList.map a.eval++v2),?_,BB.append ⟨h1,r1⟩ ((dW _ has).append ⟨h2,r2⟩)⟩;simp only[execOp,ho,Ake,resolve,hc,hv,Deferred.ofValue,A4t,Y5,invoke];rw[IJ hp hf hb];congr 2;rw[<-jG];apply A5v;simp
   ·simp at h
  ·simp at h
 ·rename_i ro name hc;split at h
  ·rename_i t x fT;split at h
   ·rename_i f' rc dL;split at h
    ·rename_i y hy;split at h
     ·rename_i as' has;simp at h;obtain⟨rfl,rfl⟩:=h;have hr:=Av (AF he fT);generalize hv:a.eval ro=v at hr
      cases hr with
      |iface _ u _ hu=>
       have hm: ∃u',(method (P.types.size+Made.depth) t u name).run P w=.ok (f',u') w/\Rel w g u' y:=by
        have uZ:=hp.inv _ _ _ _ dL;unfold Te at hy;split at hy
        ·simp at hy;subst hy;exact⟨u,uZ w u,.t _ _ hu⟩
        ·rename_i off n;split at hy
         ·rename_i ts;split at hy
          ·rename_i ys lS;simp at hy;subst hy
           cases hu with
           |agg vs _ hl hr=>
            have oB:BB w g vs (Af ts):=Ik hl hr;obtain⟨e1,e2⟩:=Jy lS;refine⟨_,uZ w vs.toArray,?_⟩;rw[A8h,A7v,show off+n-off=n from Aa];refine .agg _ _ ?_ ?_
            ·rw[Bz];subst e1;simp only[A2i,A43]at e2⊢;omega
            ·intro i v x cY hx;rw[CK]at hx;subst e1;rw[Aoy]at cY hx;split at cY
             ·rename_i hi;rw[WU hi,A4z]at hx;rw[A4z]at cY
              cases ht:ts[off+i]? with
              |none=>simp[ht]at hx
              |some z=>simp[ht]at hx;subst hx;exact .t _ _ (hr _ v z cY ht)
             ·simp at cY
          ·simp at hy
         ·simp at hy
       obtain⟨u',iD,nB⟩:=hm;refine⟨u'::cl.args.toList.map a.eval,?_,A3k nB (dW _ has)⟩;simp only[execOp,ho,Ake,resolve,hc,hv,A4t,Y5,invoke];have e1:(#[Value.iface t u]++cl.args.map a.eval)[0]?=some (Value.iface t u):=by rw[A4a Ac];rfl
       have e2:(#[Value.iface t u]++cl.args.map a.eval).extract 1 (#[Value.iface t u]++cl.args.map a.eval).size=cl.args.map a.eval:=by
        apply A5v;simp only[Array.toList_extract,Array.toList_append];simp;exact QQ Ac
       simp only[e1,e2,callMethod,Ake,program,Sem.run,Y5,iD];rw[IJ hp hf hb];congr 2;rw[<-jG];apply A5v;simp
     ·simp at h
    ·simp at h
   ·simp at h
  ·rename_i t x fT;split at h
   ·rename_i f' rc dL;split at h
    ·split at h
     ·rename_i as' has;simp at h;obtain⟨rfl,rfl⟩:=h;have hr:=AF he fT;generalize hv:a.eval ro=v at hr
      cases hr with
      |iface _ u _ hu=>
       have iD:=hp.inv _ _ _ _ dL w u;refine⟨u::cl.args.toList.map a.eval,?_,A3k hu (dW _ has)⟩;simp only[execOp,ho,Ake,resolve,hc,hv,A4t,Y5,invoke];have e1:(#[Value.iface t u]++cl.args.map a.eval)[0]?=some (Value.iface t u):=by rw[A4a Ac];rfl
       have e2:(#[Value.iface t u]++cl.args.map a.eval).extract 1 (#[Value.iface t u]++cl.args.map a.eval).size=cl.args.map a.eval:=by
        apply A5v;simp only[Array.toList_extract,Array.toList_append];simp;exact QQ Ac
       simp only[e1,e2,callMethod,Ake,program,Sem.run,Y5,iD];rw[IJ hp hf hb];congr 2;rw[<-jG];apply A5v;simp
     ·simp at h
    ·simp at h
   ·simp at h
  ·simp at h
 ·simp at h
theorem Df: ∀(l:St) {as as':List AV} {env env':A2} {σ σ':St} {g:G},EC l as env σ=(as',env',σ')->Inv w g σ-> ∀{vs:List Value} {a:Act},BB w g vs as->AQ w g a env->
  ∃g',Ext w g w g'/\Inv w g' σ'/\BB w g' vs as'/\AQ w g' a env'
 |[],as,as',env,env',σ,σ',g,h,hi,vs,a,hr,he=>by
  simp[EC]at h;obtain⟨rfl,rfl,rfl⟩:=h;exact⟨g,A3h _ _,hi,hr,he⟩
 |(b,B)::r,as,as',env,env',σ,σ',g,h,hi,vs,a,hr,he=>by
  simp only[EC]at h;split at h
  ·rename_i sz es hb;split at h
   ·obtain⟨k1,k2,k3⟩:=freeze hi hb
    obtain⟨g',m1,m2⟩:=Df r h k2 (vs:=vs) (a:=a) ⟨by rw[FB];exact hr.1,λi v x hv hx=>by
     rw[FC]at hx
     cases hg:as[i]? with
     |none=>simp[hg]at hx
     |some y=>simp[hg]at hx;subst hx;exact k3 _ _ (hr.2 i v y hv hg)⟩ (λt x hx=>by
     rw[FD]at hx
     cases hg:look env t with
     |none=>simp[hg]at hx
     |some y=>simp[hg]at hx;subst hx;exact k3 _ _ (he t y hg))
    exact⟨g',k1.trans m1,m2⟩
   ·exact Df r h hi hr he
  ·exact Df r h hi hr he
def G.pureIn (g:G):G:={β:=λ_=>none,own:=λ_=>False,oth:=g.M,sp:=λ_=>none,bx:=λ_=>False}
theorem Ka (hi:Inv w g σ):Inv w g.pureIn []:=by
 refine⟨by simp[look],by simp[look,G.pureIn],by simp[G.pureIn],?_,by simp[G.pureIn],by simp[G.pureIn],λp hp=>⟨λh=>(hi.im p hp).1 (h.elim (λx=>x.1.elim) (λx=>x)),(hi.im p hp).2⟩,A5t _,.empty (λ_ _ h=>by cases h) (λ_=>rfl)⟩;rintro aA (h|⟨o,h|h⟩)
 ·exact h.elim
 ·exact hi.lt aA (.inl h.1)
 ·exact hi.lt aA (.inr ⟨o,h⟩)
theorem O0 (b o:Nat):g.pureIn.M b o↔g.M b o:=by simp[G.M,G.pureIn]
open Classical in
noncomputable def G.pureOut (g g':G):G:={g with own:=λb=>g.own b\/g'.own b,sp:=λb=>if g.own b then g.sp b else g'.sp b}
theorem OD {w':World} {g':G} (hi:Inv w g σ) (hx:Ext w g.pureIn w' g') (b o:Nat):(g.pureOut g').M b o↔g'.M b o:=by
 have gM:g.own b-> ¬g'.own b:=λh1 h2=>(hx.own b (hi.lt b (.inl h1)) h2).elim;constructor
 ·rintro(⟨h|h,hs⟩|h)
  ·refine .inr ((hx.oth b o).2 (.inl ⟨h,λe he=>hs e ?_⟩));simp only[G.pureOut,h,Xs];exact he
  ·refine .inl ⟨h,λe he=>hs e ?_⟩;by_cases hg:g.own b
   ·exact absurd h (gM hg)
   ·simp only[G.pureOut,hg,ZF];exact he
  ·exact .inr ((hx.oth b o).2 (.inr h))
 ·rintro(⟨h,hs⟩|h)
  ·refine .inl ⟨.inr h,λe he=>hs e ?_⟩;by_cases hg:g.own b
   ·exact absurd h (gM hg)
   ·simp only[G.pureOut,hg,ZF]at he;exact he
  ·rcases(hx.oth b o).1 h with⟨h',hs⟩|h'
   ·refine .inl ⟨.inl h',λe he=>hs e ?_⟩;simp only[G.pureOut,h',Xs]at he;exact he
   ·exact .inr h'
theorem RT {w':World} {g':G} {σ':St} (hi:Inv w g σ) (dC:Inv w' g' σ') (hx:Ext w g.pureIn w' g'):
  Ext w g w' (g.pureOut g')/\Inv w' (g.pureOut g') σ/\(∀v x,Rel w g v x->Rel w' (g.pureOut g') v x)/\(∀v x,Rel w' g' v x->x.free=true->Rel w' (g.pureOut g') v x):=by
 have i5: ∀aA,aA<w.heap.size->w'.heap[aA]?=w.heap[aA]?:=λaA hb=>hx.keep aA hb (by simp[G.pureIn])
 have aG:Ext w g w' (g.pureOut g'):=by
  refine⟨hx.size,λaA hb _=>i5 aA hb,?_,λ_ _=>A6h,hx.shape,λb hb=>⟨hb,Y⟩,⟨Y,hx.lo.2⟩,Hu (λaA e _ ho h=>by simp only[G.pureOut,ho,Xs];exact h) (λaA e hb _ _=>i5 aA hb)⟩;rintro aA hb (h|h)
  ·exact h
  ·exact(hx.own aA hb h).elim
 have hr: ∀v x,Rel w g v x->Rel w' (g.pureOut g') v x:=λv x h=>h.mono aG.keeps (λ_ _ h=>h) hx.shape;have gM: ∀aA,g.own aA-> ¬g'.own aA:=λaA h1 h2=>(hx.own aA (hi.lt aA (.inl h1)) h2).elim;refine⟨aG,⟨?_,hi.dom,hi.inj,?_,hi.bx,?_,hi.im_of aG.keeps,A47 hi.lo aG.size,⟨λaA e h=>?_,λc aA h=>?_,hi.sx.one,λb L hL=>?_⟩⟩,hr,?_⟩
 ·intro b B hB;exact Fh.mono (w:=w) (w':=w') (g:=g) (g':=g.pureOut g') Y (λ_ _ h=>.inl h) (λaA hb=>i5 _ (EX hi hb).1) hr (hi.ok b B hB)
 ·rintro aA ((h|h)|h)
  ·exact A4y (hi.lt aA (.inl h)) hx.size
  ·exact dC.lt aA (.inl h)
  ·exact A4y (hi.lt aA (.inr h)) hx.size
 ·rintro aA o (h|h) ho
  ·exact hi.dis aA o h ho
  ·exact dC.dis aA o h ((hx.oth aA o).2 (.inr ho))
 ·simp only[G.pureOut]at h;split at h
  ·exact A4y (hi.sx.lt aA e h) hx.size
  ·exact dC.sx.lt aA e h
 ·have ho:=(EX hi h).2.1;simp only[G.pureOut,ho,Xs];exact hi.sx.bs c aA h
 ·obtain⟨h1,h2⟩:=hi.sx.ok b L hL;refine⟨h1,λp hp=>?_⟩;obtain⟨k1,k2,vs,ty,k3,k4⟩:=h2 p hp;exact⟨.inl k1,by simp only[G.pureOut,k1,Xs];exact k2,vs,ty,by rw[i5 _ (hi.sx.lt _ _ k2)];exact k3,k4⟩
 ·intro v x h hf;refine h.free ?_ hf;intro b o v hm hc;refine⟨?_,hc⟩;exact λh=>hm ((OD hi hx b o).1 h)
theorem N0 (k:Nat): ∀l,(D6 k l).length=l.length
 |[]=>by simp[D6]
 |x::r=>by simp[D6,N0 k r]
theorem N1 (k:Nat): ∀(l:List AV) (i:Nat),(D6 k l)[i]?=(l[i]?).map (Z6 k)
 |[],i=>by simp[D6]
 |x::r,0=>by simp[D6]
 |x::r,i+1=>by simp[D6,N1 k r i]
theorem NX {σ:St}: ∀{l:List AV},VA σ l=true-> ∀(i:Nat) x,l[i]?=some x->Z7 σ x=true
 |[],_,i,x,h=>by simp at h
 |y::r,hf,i,x,h=>by
  simp only[VA,Qp]at hf
  cases i with
  |zero=>simp at h;subst h;exact hf.1
  |succ i=>simp at h;exact NX hf.2 i x h
theorem J6 (k:Nat): ∀(l:St) (b:Nat),look (To k l) b=if k<=b then look l (b-k)else none
 |[],b=>by simp[To,look]
 |(c,B)::r,b=>by
  simp only[To];rw[Ap,Ap,J6 k r b];by_cases h:c+k=b
  ·have h1:k<=b:=Aa;have h2:c=b-k:=Aa;rw[WU h,WU h1,WU h2]
  ·by_cases h1:k<=b
   ·have h2: ¬c=b-k:=Aa;simp[h,h1,h2]
   ·simp[h,h1]
theorem DA {α:Type}: ∀(l1 l2:List (Nat×α)) (b:Nat),look (l1++l2) b=(look l1 b).or (look l2 b)
 |[],l2,b=>by simp[look]
 |(c,x)::r,l2,b=>by
  simp only[A5n];rw[Ap,Ap,DA r l2 b];by_cases h:c=b<;>simp[h]
theorem Kp (r:AV) (σ:St): ∀(l:St) (b:Nat) B,look (KF r σ l) b=some B->(∃sz es,B=.grow sz es)/\look σ b=some B
 |[],b,B,h=>by simp[KF,look]at h
 |(c,C)::l,b,B,h=>by
  simp only[KF]at h;split at h
  ·split at h
   ·rename_i sz es hc;rw[Ap]at h;split at h
    ·rename_i e;simp at h;subst h;subst e;exact⟨⟨sz,es,Y⟩,hc⟩
    ·exact Kp r σ l b B h
   ·exact Kp r σ l b B h
  ·exact Kp r σ l b B h
theorem K9 {σ:St}: ∀{l:St},P6 σ l=true-> ∀b B,look l b=some B->look σ b=none
 |[],_,b,B,h=>by simp[look]at h
 |(c,C)::r,ha,b,B,h=>by
  simp only[P6,Qp]at ha;rw[Ap]at h;split at h
  ·rename_i e;subst e;have:=ha.1
   cases hl:look σ c with
   |none=>rfl
   |some x=>rw[hl]at this;simp at this
  ·exact K9 ha.2 b B h
def G.hand (g gc:G) (k:Nat) (τ:St):G:={g with β:=λb=>match look (To k τ) b with
 |some _=>gc.β (b-k)
 |none=>g.β b}
theorem S7 {w':World} {gp gc:G} {σ1 τ:St} {k:Nat} (hi:Inv w' gp σ1) (hc: ∀b B,look τ b=some B->(∃sz es,B=.grow sz es)/\Fh w' gc b B) (qB: ∀b b' aA,gc.β b=some (some aA)->gc.β b'=some (some aA)->b=b')
  (jM:P6 σ1 (To k τ)=true) (hM: ∀b o,gp.M b o↔gc.M b o) (eP: ∀b,gc.own b->gp.own b) (rJ: ∀c aA,gc.β c=some (some aA)->gp.sp aA=none) (gS: ∀b c aA,gp.β b=some (some aA)->gc.β c=some (some aA)->False):
  Inv w' (gp.hand gc k τ) (To k τ++σ1)/\(∀v x,Rel w' gp v x->Rel w' (gp.hand gc k τ) v x)/\(∀v x,Rel w' gc v x->Z7 τ x=true->Rel w' (gp.hand gc k τ) v (Z6 k x)):=by
 have vD: ∀{v:Value} {x:T},RelT w' gc.M v x->RelT w' (gp.hand gc k τ).M v x:=λh=>h.mono λb o v h1 h2=>⟨λh=>h1 ((hM b o).1 h),h2⟩
 have hβ: ∀b p,gp.β b=some p->(gp.hand gc k τ).β b=some p:=by
  intro b p hb;simp only[G.hand]
  cases hl:look (To k τ) b with
  |none=>exact hb
  |some B=>
   have h1:=K9 jM b B hl;have h2:=hi.dom b;rw[h1,hb]at h2;simp at h2
 have hβ2: ∀b B p,look τ b=some B->gc.β b=some p->(gp.hand gc k τ).β (b+k)=some p:=by
  intro b B p hl hb;simp only[G.hand];have:look (To k τ) (b+k)=some B:=by rw[J6];simp[hl]
  rw[this];simp[hb]
 have hr: ∀v x,Rel w' gp v x->Rel w' (gp.hand gc k τ) v x:=λv x h=>Rel.mono (w:=w') (w':=w') (g:=gp) (g':=gp.hand gc k τ) (λb o v h1 h2=>⟨h1,h2⟩) hβ (λ_ _ h=>h) h
 have oU: ∀v x,Rel w' gc v x->Z7 τ x=true->Rel w' (gp.hand gc k τ) v (Z6 k x):=by
  intro v x h
  induction h with
  |t v x h=>intro _;simp only[Z6];exact .t _ _ (vD h)
  |top v=>intro _;simp only[Z6];exact .top v
  |ref c o aA h=>intro hh;simp[Z7]at hh
  |eref c s i o aA h=>
   intro hh;simp only[Z7,A56]at hh;obtain⟨B,hB⟩:=hh;simp only[Z6];exact .eref _ _ _ _ _ (hβ2 _ B _ hB h)
  |mref c aA h=>intro hh;simp[Z7]at hh
  |rowNil c s a ha h=>
   intro hh;simp only[Z7,A56]at hh;obtain⟨B,hB⟩:=hh;simp only[Z6];exact .rowNil _ _ _ ha (hβ2 _ B _ hB h)
  |row c s lo len aA o cap e0 n h hs ho hl hn=>
   intro hh;simp only[Z7,A56]at hh;obtain⟨B,hB⟩:=hh;simp only[Z6];exact .row _ _ _ _ aA o cap e0 n (hβ2 _ B _ hB h) hs ho hl hn
  |iface t v x _ ih=>intro hh;simp only[Z7]at hh;simp only[Z6];exact .iface _ _ _ (ih hh)
  |func fn v1 v2 x1 x2 h1 h2 _ _ i1 i2=>
   intro hh;simp only[Z7,Qp]at hh;simp only[Z6];refine .func fn v1 v2 _ _ (by rw[N0];exact h1) (by rw[N0];exact h2) (λi v x hv hx=>?_) (λi v x hv hx=>?_)
   ·rw[N1]at hx
    cases hg:x1[i]? with
    |none=>simp[hg]at hx
    |some y=>simp[hg]at hx;subst hx;exact i1 i v y hv hg (NX hh.1 i y hg)
   ·rw[N1]at hx
    cases hg:x2[i]? with
    |none=>simp[hg]at hx
    |some y=>simp[hg]at hx;subst hx;exact i2 i v y hv hg (NX hh.2 i y hg)
  |agg vs xs h _ ih=>
   intro hh;simp only[Z7]at hh;simp only[Z6];refine .agg vs _ (by rw[N0];exact h) λi v x hv hx=>?_;rw[N1]at hx
   cases hg:xs[i]? with
   |none=>simp[hg]at hx
   |some y=>simp[hg]at hx;subst hx;exact ih i v y hv hg (NX hh i y hg)
  |tuple vs xs h _ ih=>
   intro hh;simp only[Z7]at hh;simp only[Z6];refine .tuple vs _ (by rw[N0];exact h) λi v x hv hx=>?_;rw[N1]at hx
   cases hg:xs[i]? with
   |none=>simp[hg]at hx
   |some y=>simp[hg]at hx;subst hx;exact ih i v y hv hg (NX hh i y hg)
 refine⟨⟨?_,?_,?_,hi.lt,?_,hi.dis,hi.im,hi.lo,hi.sx.mono (WW _) Y (λ_ _ _ h=>h) (λ_ _ _ _ _=>rfl) (λc aA h=>?_) (λb L hL=>?_)⟩,hr,oU⟩
 ·intro b B hB;rw[DA]at hB
  cases hl:look (To k τ) b with
  |some C=>
   rw[hl]at hB;simp at hB;subst hB;rw[J6]at hl;split at hl
   ·rename_i hk;obtain⟨⟨sz,es,rfl⟩,bA⟩:=hc _ _ hl;have cN:b-k+k=b:=Aa;obtain⟨h0,h⟩:=bA;refine⟨h0,?_⟩;rcases h with⟨h1,h2⟩|⟨aA,vs,e,h1,h2,h3,h4,h5⟩
    ·exact .inl ⟨by have:=hβ2 _ _ _ hl h1;rwa[cN]at this,h2⟩
    ·exact .inr ⟨aA,vs,e,by have:=hβ2 _ _ _ hl h1;rwa[cN]at this,eP _ h2,h3,h4,λi v x hv hx=>⟨(h5 i v x hv hx).1,vD (h5 i v x hv hx).2⟩⟩
   ·cases hl
  |none=>
   rw[hl]at hB;simp at hB
   exact Fh.mono (w:=w') (g:=gp) (g':=gp.hand gc k τ) (by
    cases hg:gp.β b with
    |none=>have:=hi.dom b;rw[hB,hg]at this;simp at this
    |some p=>exact hβ _ _ hg) (λ_ _ h=>h) (λ_ _=>rfl) hr (hi.ok b B hB)
 ·intro b;rw[DA];simp only[G.hand]
  cases hl:look (To k τ) b with
  |none=>simp;exact hi.dom b
  |some C=>
   simp;rw[J6]at hl;split at hl
   ·obtain⟨⟨sz,es,rfl⟩,bA⟩:=hc _ _ hl;rcases bA.2 with⟨h1,_⟩|⟨aA,_,_,h1,_⟩<;>rw[h1]<;>rfl
   ·cases hl
 ·intro b b' aA h1 h2;simp only[G.hand]at h1 h2
  cases hl:look (To k τ) b with
  |none=>
   rw[hl]at h1
   cases cX:look (To k τ) b' with
   |none=>rw[cX]at h2;exact hi.inj _ _ _ h1 h2
   |some C=>rw[cX]at h2;exact(gS _ _ _ h1 h2).elim
  |some C=>
   rw[hl]at h1
   cases cX:look (To k τ) b' with
   |none=>rw[cX]at h2;exact(gS _ _ _ h2 h1).elim
   |some C'=>
    rw[cX]at h2;have:=qB _ _ _ h1 h2;rw[J6]at hl cX;split at hl
    ·split at cX
     ·omega
     ·cases cX
    ·cases hl
 ·intro b hb;obtain⟨h1,cs,h2⟩:=hi.bx b hb;refine⟨h1,cs,?_⟩;rw[DA]
  cases hl:look (To k τ) b with
  |none=>simpa using h2
  |some C=>have:=K9 jM b C hl;rw[h2]at this;cases this
 ·simp only[G.hand]at h;split at h
  ·exact .inr (rJ _ _ h)
  ·exact .inl ⟨c,h⟩
 ·rw[DA]at hL
  cases hl:look (To k τ) b with
  |none=>rw[hl]at hL;simpa using hL
  |some C=>
   rw[hl]at hL;simp at hL;subst hL;rw[J6]at hl;split at hl
   ·obtain⟨⟨sz,es,h1⟩,_⟩:=hc _ _ hl;cases h1
   ·cases hl
theorem Lt {w':World} {gc:G} {σ1 σ2 σ':St} {g1:G} {a:Act} {aV env':A2} {dst:Option Nat} {r x:AV} {v:Value} (hi:Inv w g1 σ1) (he:AQ w g1 a aV) (dC:Inv w' gc σ2) (hx:Ext w g1.pureIn w' gc) (hv:Rel w' gc v r)
  (h:Lu dst r σ2 aV σ1=some (x,env',σ')):FI w g1 a x env' σ' v w':=by
 obtain⟨k1,k2,k3,k4⟩:=RT hi dC hx;unfold Lu at h;split at h
 ·rename_i hf;simp at h;obtain⟨rfl,rfl,rfl⟩:=h;exact⟨_,k1,k4 _ _ hv hf,k2,he.mono k3⟩
 ·split at h
  ·rename_i d;split at h
   ·rename_i hb;simp at h;obtain⟨rfl,rfl,rfl⟩:=h;simp only[Qp]at hb;have tX:=OD hi hx
    obtain⟨m1,m2,m3⟩:=S7 (k:=2000*(d+1)) (τ:=KF r σ2 σ2) k2 (λb B hB=>by
     obtain⟨q1,q2⟩:=Kp r σ2 σ2 b B hB
     exact⟨q1,dC.ok b B q2⟩) dC.inj hb.2 tX (λb hb=>.inr hb) (λc aA q2=>by
     have h2:=(EX dC q2).2.1;have cH: ¬g1.own aA:=λh1=>hx.own aA (hi.lt aA (.inl h1)) h2;simp only[G.pureOut,cH,ZF]
     exact dC.sx.bs c aA q2) (λb c aA q1 q2=>by
     have h1:=(EX hi q1).1;have h2:=(EX dC q2).2.1
     exact hx.own aA h1 h2)
    have jM:=hb.2;refine⟨(g1.pureOut gc).hand gc (2000*(d+1)) (KF r σ2 σ2),⟨k1.size,k1.keep,k1.own,k1.oth,k1.shape,λb hb=>⟨hb,?_⟩,⟨Y,k1.lo.2⟩,k1.sp⟩,m3 _ _ hv hb.1,m1,(he.mono k3).mono m2⟩;obtain⟨_,cs,q⟩:=hi.bx b hb;simp only[G.hand]
    cases hl:look (To (2000*(d+1)) (KF r σ2 σ2)) b with
    |none=>rfl
    |some C=>have:=K9 jM b C hl;rw[q]at this;cases this
   ·simp at h
  ·simp at h
theorem Ou (hp:ProgOk P c) (fB:O1 P cf) (hi:Inv w g σ) {a:Act} {env env':A2} {σ':St} (he:AQ w g a env) {o:Oper} {cl:Call} (ho:o.op=.call cl) {x:AV}
  (h:Mf c cf o.dst cl env σ=some (x,env',σ')):BN P o a w (FI w g a x env' σ'):=by
 have gen: ∀(f:Nat) (as:List AV) (r:AV) (σ2:St),DG c env cl=some (f,as)->cf f (TV as) (Z5 σ)=some (r,σ2)->BN P o a w (FI w g a (Ge r) (TN σ env) (Dg σ2)):=by
  intro f as r σ2 hc hr;obtain⟨⟨fn,hf,hb⟩,hca⟩:=fB _ _ _ _ _ hr;obtain⟨vs,aM,aJ⟩:=Dc hp he hc ho hf hb;refine BN.enter aM ((hca vs w (g.up σ) ⟨by rw[IQ];exact aJ.1,λi v x hv hx=>?_⟩ (ZC hi)).mono ?_)
  ·rw[IR]at hx
   cases hg:as[i]? with
   |none=>simp[hg]at hx
   |some y=>simp[hg]at hx;subst hx;exact Rm (aJ.2 i v y hv hg)
  ·rintro e w' ⟨v,g',rfl,h1,h2,h3⟩;exact⟨v,Y,g'.down g,YY hi h1,Oq h2,YX hi h3 h1,Aeg h1 he⟩
 unfold Mf at h;split at h
 ·rename_i f as hc;split at h
  ·split at h
   ·rename_i r σ2 hr;simp at h;obtain⟨rfl,rfl,rfl⟩:=h;exact gen f as r σ2 hc hr
   ·simp at h
  ·split at h;rename_i as' aV σ1 dV;split at h
   ·rename_i gJ;split at h
    ·rename_i r σ2 hr;obtain⟨⟨fn,hf,hb⟩,hca⟩:=fB _ _ _ _ _ hr;obtain⟨vs,aM,aJ⟩:=Dc hp he hc ho hf hb;obtain⟨g1,f1,f2,f3,f4⟩:=Df (w:=w) σ dV hi aJ he;refine BN.enter aM ((hca vs w g1.pureIn ⟨f3.1,λi v x hv hx=>?_⟩ (Ka f2)).mono ?_)
     ·exact(f3.2 i v x hv hx).free (λb o v h1 h2=>⟨λh=>h1 ((O0 b o).1 h),h2⟩) (Ft gJ i x hx)
     ·rintro e w' ⟨v,g',rfl,h1,h2,h3⟩;exact⟨v,Y,(Lt f2 f4 h3 h1 h2 h).lift f1⟩
    ·simp at h
   ·split at h
    ·rename_i r σ2 hr;simp at h;obtain⟨rfl,rfl,rfl⟩:=h;exact gen f as r σ2 hc hr
    ·simp at h
 ·simp at h
theorem BB.nil:BB w g [] []:=⟨Y,Ac⟩
theorem NC (hi:Inv w g σ) {a:Act} {env env':A2} {σ':St} (he:AQ w g a env) {o:Oper} (h:Ke o env σ=(env',σ')): ∃g',Ext w g w g'/\Inv w g' σ'/\AQ w g' a env':=by
 have triv:(env,σ)=(env',σ')-> ∃g',Ext w g w g'/\Inv w g' σ'/\AQ w g' a env':=λh=>by
  simp at h;obtain⟨rfl,rfl⟩:=h;exact⟨g,A3h _ _,hi,he⟩
 have gen: ∀(xs:List AV) (vs:List Value),BB w g vs xs->(EC σ xs env σ).2=(env',σ')-> ∃g',Ext w g w g'/\Inv w g' σ'/\AQ w g' a env':=by
  intro xs vs hr h;obtain⟨g',k1,k2,_,k3⟩:=Df (w:=w) σ (as:=xs) (as':=(EC σ xs env σ).1) (env':=env') (σ':=σ') (by rw[<-h]) hi hr he;exact⟨g',k1,k2,k3⟩
 unfold Ke at h;split at h
 ·rename_i t n parts ho;split at h
  ·rename_i ps iL;obtain⟨h1,h2⟩:=Kz he iL;refine gen _ (parts.toList.map λp=>a.eval p.2) ⟨by simpa using h1,λi v x hv hx=>?_⟩ h;simp only[A42]at hv hx
   cases hp:parts.toList[i]? with
   |none=>simp[hp]at hv
   |some p=>
    cases hq:ps[i]? with
    |none=>simp[hq]at hx
    |some q=>
     simp[hp]at hv;simp[hq]at hx;subst hv;subst hx;exact(h2 i (p.1,a.eval p.2) q (by simp[hp]) hq).2
  ·exact triv h
 ·rename_i t p x ho;split at h
  ·split at h
   ·rename_i y hy;exact gen _ [a.eval x] (A3k (AF he hy) BB.nil) h
   ·exact triv h
  ·exact triv h
 ·exact triv h
theorem ZI (hp:ProgOk P c) (fB:O1 P cf) (hi:Inv w g σ) {a:Act} {env env':A2} {σ':St} (he:AQ w g a env) {o:Oper} {x:AV}
  (h:ES c cf o env σ=some (x,env',σ')):BN P o a w (FI w g a x env' σ'):=by
 have pcase: ∀x,Cj c.te o.op env=some x->BN P o a w (FI w g a x env σ):=λx hx=>by
  obtain⟨v,h1,h2⟩:=RR (P:=P) hp.te he hx;exact BN.value h1 ⟨g,A3h _ _,h2,hi,he⟩
 have pcase':(match Cj c.te o.op env with
  |some x=>some (x,env,σ)
  |none=>none)=some (x,env',σ')->BN P o a w (FI w g a x env' σ'):=λh=>by
  split at h
  ·rename_i y hy;simp at h;obtain⟨rfl,rfl,rfl⟩:=h;exact pcase _ hy
  ·simp at h
 have fcase:(match Ke o env σ with
  |(env,σ)=>Gp c.toCfg o env σ)=some (x,env',σ')->BN P o a w (FI w g a x env' σ'):=λh=>by
  cases oV:Ke o env σ with
  |mk aV σ1=>
   rw[oV]at h;obtain⟨g1,k1,k2,k3⟩:=NC hi he oV;exact(FZ hp.te k2 k3 h).mono λv w' hq=>hq.lift k1
 unfold ES at h;split at h
 ·exact FZ hp.te hi he h
 ·exact FZ hp.te hi he h
 ·exact FZ hp.te hi he h
 ·exact fcase h
 ·exact FZ hp.te hi he h
 ·exact FZ hp.te hi he h
 ·exact Ii hp.te hi he h
 ·exact Ii hp.te hi he h
 ·exact Ii hp.te hi he h
 ·exact Ii hp.te hi he h
 ·exact fcase h
 ·rename_i cl ho;split at h
  ·exact FZ hp.te hi he h
  ·split at h
   ·rename_i y hy;simp at h;obtain⟨rfl,rfl,rfl⟩:=h;exact pcase _ hy
   ·exact Ii hp.te hi he h
  ·exact Ii hp.te hi he h
  ·exact pcase' h
  ·exact Ou hp fB hi he ho h
  ·exact Ou hp fB hi he ho h
 ·exact pcase' h
end
end Go.Am
namespace Go.Am
section
variable {P:Program} {c:Conf} {cf:Nat->List AV->St->Option (AV×St)} {R:Type}
def HJ (w:World) (g:G) (ds:List Deferred):Prop:=
 ∃Ds:List Nat,ds=Ds.map (λD=>({target:=.collected D,args:= #[]}:Deferred))/\Ds.Nodup/\ ∀D∈Ds,w.heap[D]?=some (.deferred (some []))/\ ¬g.own D/\g.lo<=D
theorem HJ.nil {w:World} {g:G}:HJ w g []:=⟨[],Y,List.nodup_nil,λ_ h=>by simp at h⟩
theorem HJ.ext {w w':World} {g g':G} {ds:List Deferred} (h:HJ w g ds) (hx:Ext w g w' g'):HJ w' g' ds:=by
 obtain⟨Ds,h1,h2,h3⟩:=h;refine⟨Ds,h1,h2,λD hD=>?_⟩;obtain⟨k1,k2,k3⟩:=h3 D hD;have aC:D<w.heap.size:=(A59.1 k1).1;exact⟨by rw[hx.keep D aC k2];exact k1,λho=>k2 (hx.own D aC ho),by rw[hx.lo.1];exact k3⟩
structure Good (n:Nat) (w:World) (g:G) (a:Act) (env:A2) (σ:St):Prop where
 env:AQ w g a env
 inv:Inv w g σ
 defers:HJ w g a.defers
 size:n<=a.tmps.size
theorem Da {n:Nat} {w:World} {g:G} {a:Act} {env env2:A2} {σ:St} {dst:Option Nat} {x:AV} {v:Value} (h:BM n dst x env=some env2) (hg:Good n w g a env σ) (hr:Rel w g v x):
  Good n w g (a.put dst v) env2 σ:=by
 unfold BM at h;split at h
 ·rename_i d;split at h
  ·rename_i hb;simp at h;subst h;have hd:d<n:=by simpa[A6i]using hb
   have aN:=hg.size;refine⟨λt y hy=>?_,hg.inv,hg.defers,by simp[Act.put];exact aN⟩;rw[Ap]at hy;split at hy
   ·rename_i e;simp at hy;subst hy;subst e;simp[Act.put,Array.getD,hr,show d<a.tmps.size from Aa]
   ·rename_i e;have:=hg.env t y hy
    have e2:({a with tmps:=a.tmps.setIfInBounds d v}:Act).tmps.getD t undef=a.tmps.getD t undef:=by
     simp only[A5b];rw[A7f e]
    simp only[Act.put];rw[e2];exact this
  ·simp at h
 ·simp at h;subst h;exact hg
def Bt (ops:Array Oper) (o:Oper) (env:A2) (kT kF:A2->Prop):Prop:=
 match o.guard with
 |none=>kT env
 |some (j,want)=>match ops[j]? with
  |some oj=>match oj.dst with
   |some d=>match look env d with
    |some (.t (.bool b))=>(b=want->kT ((d,.t (.bool want))::env))/\(b= !want->kF ((d,.t (.bool (!want)))::env))
    |some (.t .undef)=>kF env
    |_=>False
   |none=>False
  |none=>False
def RQ (n:Nat) (dst:Option Nat) (x:AV) (env:A2) (K:A2->Prop):Prop:= ∃e,BM n dst x env=some e/\K e
def Mt (P:Program) (o:Oper) (env:A2) (σ:St) (K:AV->A2->St->Prop):Prop:=
 ∀w g a,Inv w g σ->AQ w g a env->BN P o a w λv w'=> ∃x e s,FI w g a x e s v w'/\K x e s
theorem Mt.of {cf:Nat->List AV->St->Option (AV×St)} (hp:ProgOk P c) (fB:O1 P cf) {o:Oper} {env e:A2} {σ s:St} {x:AV} {K:AV->A2->St->Prop} (h:ES c cf o env σ=some (x,e,s)) (hk:K x e s):Mt P o env σ K:=
 λ_ _ _ hi he=>(ZI hp fB hi he h).mono λ_ _ hq=>⟨x,e,s,hq,hk⟩
theorem Mt.mono {o:Oper} {env:A2} {σ:St} {K K':AV->A2->St->Prop} (h:Mt P o env σ K) (hk: ∀x e s,K x e s->K' x e s):Mt P o env σ K':=
 λw g a hi he=>(h w g a hi he).mono λ_ _ ⟨x,e,s,h1,h2⟩=>⟨x,e,s,h1,hk _ _ _ h2⟩
def A6 (P:Program) (n:Nat) (ops:Array Oper):List Oper->A2->St->(A2->St->Prop)->Prop
 |[],env,σ,K=>K env σ
 |o::aD,env,σ,K=>Bt ops o env (λenv=>Mt P o env σ λx e s=>RQ n o.dst x e λe2=>A6 P n ops aD e2 s K)
   (λenv=>RQ n o.dst (.t .undef) env λe2=>A6 P n ops aD e2 σ K)
theorem Ib {n:Nat} {w:World} {g:G} {a:Act} {env:A2} {σ:St} (hg:Good n w g a env σ) {ops:Array Oper} {o:Oper} {kT kF:A2->Prop} (h:Bt ops o env kT kF):
  (Region.wanted o (yielded ops a.tmps)=true/\ ∃aV,kT aV/\Good n w g a aV σ)\/(Region.wanted o (yielded ops a.tmps)=false/\ ∃aV,kF aV/\Good n w g a aV σ):=by
 unfold Bt at h;unfold Region.wanted;split at h
 ·rename_i c9;exact .inl ⟨by rw[c9],env,h,hg⟩
 ·rename_i j want c9;rw[c9];split at h
  ·rename_i oj hj;split at h
   ·rename_i d hd
    have hy:yielded ops a.tmps j=match a.tmps[d]? with
     |some (.bool b)=>some b
     |_=>none:=by
     unfold yielded;rw[hj];simp only[Option.bind_some,hd]
     cases a.tmps[d]? with
     |none=>rfl
     |some v=>cases v<;>rfl
    split at h
    ·rename_i p hp;have hr:=Gm (hg.env d _ hp)
     have hv:a.tmps[d]?=some (.bool p):=by
      rw[A5b]at hr
      cases ht:a.tmps[d]? with
      |none=>rw[ht]at hr;simp[undef]at hr
      |some u=>rw[ht]at hr;simp at hr;rw[hr]
     simp only[hy,hv]
     have k7: ∀b,p=b->Good n w g a ((d,.t (.bool b))::env) σ:=by
      intro b hb;subst hb;refine⟨λt x hx=>?_,hg.inv,hg.defers,hg.size⟩;rw[Ap]at hx;split at hx
      ·rename_i e;subst e;simp at hx;subst hx;exact hg.env d _ hp
      ·exact hg.env t x hx
     by_cases hpw:p=want
     ·refine .inl ⟨?_,_,h.1 hpw,k7 _ hpw⟩;cases p<;>cases want<;>first|rfl|cases hpw
     ·have uS:p= !want:=by cases p<;>cases want<;>first|rfl|exact absurd Y hpw
      refine .inr ⟨?_,_,h.2 uS,k7 _ uS⟩;cases p<;>cases want<;>first|rfl|exact absurd Y hpw
    ·rename_i hp
     have hr:a.tmps.getD d undef=undef:=by
      have:=Av (hg.env d _ hp);generalize hv:a.tmps.getD d undef=v at this;cases this;rfl
     have hv:a.tmps[d]?=none\/a.tmps[d]?=some undef:=by
      rw[A5b]at hr
      cases ht:a.tmps[d]? with
      |none=>exact .inl Y
      |some u=>rw[ht]at hr;simp at hr;rw[hr];exact .inr Y
     exact .inr ⟨by rcases hv with hv|hv<;>simp[hy,hv,undef],env,h,hg⟩
    ·exact h.elim
   ·exact h.elim
  ·exact h.elim
def Cl (n:Nat) (w:World) (g:G) (K:Exit->A2->St->Prop) (ex:Exit) (a':Act) (w':World):Prop:=
 ∃env' σ' g',Ext w g w' g'/\Good n w' g' a' env' σ'/\K ex env' σ'
theorem Cl.lift {n:Nat} {w w1 w':World} {g g1:G} {K:Exit->A2->St->Prop} {ex:Exit} {a':Act} (h:Ext w g w1 g1) (hp:Cl n w1 g1 K ex a' w'):Cl n w g K ex a' w':=by
 obtain⟨env',σ',g',h1,h2⟩:=hp;exact⟨env',σ',g',h.trans h1,h2⟩
theorem MS {F:Fence} (hF:Q3 F) {n:Nat} {ops:Array Oper} {K:Exit->A2->St->Prop}: ∀(l:List Oper) {w:World} {g:G} {a:Act} {env:A2} {σ:St},
  A6 P n ops l env σ (K .normal)->Good n w g a env σ-> ∀{w0:World} {g0:G},Ext w0 g0 w g->wpListIn F 0 P ops (Cl n w0 g0 K) l a w
 |[],w,g,a,env,σ,h,hg,w0,g0,hx=>⟨env,σ,g,hx,hg,h⟩
 |o::aD,w,g,a,env,σ,h,hg,w0,g0,hx=>by
  simp only[A6]at h;simp only[wpListIn];rcases Ib hg h with⟨hw,e9,h,hg⟩|⟨hw,e9,h,hg⟩
  ·rw[hw];simp only[Xs];refine h w g a hg.inv hg.env F hF _ _ ?_;rintro v w' ⟨x,e,s,⟨g',h1,h2,h3,h4⟩,e2,bB,h⟩;exact MS hF aD h (Da bB ⟨h4,h3,hg.defers.ext h1,hg.size⟩ h2) (hx.trans h1)
  ·rw[hw];simp only[A0s,ZF];obtain⟨e2,bB,h⟩:=h;exact⟨λf _=>hF.fn f,MS hF aD h (Da bB hg (.t _ _ .undef)) hx⟩
def S6:List Oper->Bool
 |[]=>false
 |o::r=>(match o.op with
  |.call cl=>(match cl.callee with
   |.builtin .append=>true
   |_=>S6 r)
  |_=>S6 r)
def MN:Code->Bool
 |.region _ ops true=> !S6 ops.toList
 |.rangeFunc _ _ _ _=>false
 |.seq a b=>MN a&&MN b
 |.cond _ a b=>MN a&&MN b
 |.block _ b=>MN b
 |.loop b=>MN b
 |.scope b=>MN b
 |_=>true
def RF (F:Fence) (c:Code):Prop:=F.round=none\/MN c=true
theorem RF.seq {F:Fence} {a b:Code} (h:RF F (.seq a b)):RF F a/\RF F b:=by
 rcases h with h|h
 ·exact⟨.inl h,.inl h⟩
 ·simp only[MN,Qp]at h;exact⟨.inr h.1,.inr h.2⟩
theorem RF.cond {F:Fence} {x:Operand} {a b:Code} (h:RF F (.cond x a b)):RF F a/\RF F b:=by
 rcases h with h|h
 ·exact⟨.inl h,.inl h⟩
 ·simp only[MN,Qp]at h;exact⟨.inr h.1,.inr h.2⟩
theorem RF.block {F:Fence} {i:Nat} {b:Code} (h:RF F (.block i b)):RF F b:=h
theorem RF.loop {F:Fence} {b:Code} (h:RF F (.loop b)):RF F b:=h
def Tr (P:Program) (n:Nat) (code:Code) (env:A2) (σ:St) (K:Exit->A2->St->Prop):Prop:=
 ∀F,Q3 F->RF F code-> ∀w g a,Good n w g a env σ->code.wpIn F 0 P (Cl n w g K) a w
theorem SF: ∀(as:List AV) (i t:Nat) (x:AV),look (H7 i as) t=some x->i<=t/\as[t-i]?=some x
 |[],i,t,x,h=>by simp[H7,look]at h
 |y::r,i,t,x,h=>by
  simp only[H7]at h;rw[Ap]at h;split at h
  ·rename_i e;subst e;simp at h;subst h;simp
  ·rename_i e;obtain⟨h1,h2⟩:=SF r (i+1) t x h;refine⟨Aa,?_⟩;rw[show t-i=(t-(i+1))+1 from Aa]
   simpa using h2
theorem HX {n:Nat} {w:World} {a:Act}: ∀(l:St) {env env':A2} {σ σ':St} {g:G},MT l env σ=(env',σ')->Good n w g a env σ-> ∃g',Ext w g w g'/\Good n w g' a env' σ'
 |[],env,env',σ,σ',g,h,hg=>by
  simp[MT]at h;obtain⟨rfl,rfl⟩:=h;exact⟨g,A3h _ _,hg⟩
 |(b,B)::r,env,env',σ,σ',g,h,hg=>by
  simp only[MT]at h;split at h
  ·split at h
   ·rename_i sz es hb;obtain⟨k1,k2,k3⟩:=freeze hg.inv hb
    obtain⟨g',m1,m2⟩:=HX r h ⟨λt x hx=>by
     rw[FD]at hx
     cases hl:look env t with
     |none=>simp[hl]at hx
     |some y=>simp[hl]at hx;subst hx;exact k3 _ _ (hg.env t y hl),k2,hg.defers.ext k1,hg.size⟩
    exact⟨g',k1.trans m1,m2⟩
   ·exact HX r h hg
  ·exact HX r h hg
def VD (tmps:Array Value):ResultVar->Sem Value
 |.tmp t=>pure (tmps.getD t undef)
 |.cell q t=>do loadVar t (<-asAddr (tmps.getD q undef))
theorem Aab (fn:Func) (tmps:Array Value):results fn tmps=(do
  let vs<-fn.results.mapM (VD tmps)
  pure (if h:vs.size=1 then vs[0]else .tuple vs):Sem Value):=by
 unfold results;congr 2
theorem RJ (hp:ProgOk P c) {n:Nat} {w:World} {g:G} {a:Act} {env:A2} {σ:St} (hg:Good n w g a env σ): ∀(l:List ResultVar) {xs:List AV},Afp c.te env σ l=some xs->
  ∃vs:List Value,(l.mapM (VD a.tmps):Sem (List Value)).run P w=.ok vs w/\BB w g vs xs
 |[],xs,h=>by simp[Afp]at h;subst h;exact⟨[],Ac,by simp[BB]⟩
 |q::rs,xs,h=>by
  simp only[Afp]at h;split at h
  ·rename_i x hx;split at h
   ·rename_i ys hy;simp at h;subst h;obtain⟨vs,h1,h2⟩:=RJ hp hg rs hy
    have hq: ∃v,(VD a.tmps q).run P w=.ok v w/\Rel w g v x:=by
     cases q with
     |tmp t=>exact⟨_,Y,hg.env t x hx⟩
     |cell q t=>
      simp only[Azw]at hx;split at hx
      ·rename_i p hpq;split at hx
       ·have aJ:=hg.env q _ hpq;obtain⟨v,l1,l2⟩:=Sr (P:=P) hp.te hg.inv aJ hx;refine⟨v,?_,l2⟩;simp only[VD];generalize hv:a.tmps.getD q undef=u at aJ l1⊢
        cases aJ with
        |ref b off aA hb=>simpa[Instr.loadAt,Instr.sureAddr,asAddr]using l1
       ·simp at hx
      ·simp at hx
    obtain⟨v,q1,q2⟩:=hq;refine⟨v::vs,?_,A3k q2 h2⟩;simp only[List.mapM_cons,Ake,q1,Y5,h1,A4t]
   ·simp at h
  ·simp at h
theorem LI (hp:ProgOk P c) {n:Nat} {w:World} {g:G} {a:Act} {env:A2} {σ σ':St} {x:AV} (hg:Good n w g a env σ) {fn:Func} {own:Bool} (h:OB c.te own fn.results.toList env σ=some (x,σ')):
  ∃v g',(results fn a.tmps).run P w=.ok v w/\Ext w g w g'/\Rel w g' v x/\Inv w g' σ':=by
 unfold OB at h;split at h;rename_i aV σ1 dV
 obtain⟨g1,f1,f2⟩: ∃g',Ext w g w g'/\Good n w g' a aV σ1:=by
  cases own with
  |true=>simp at dV;obtain⟨rfl,rfl⟩:=dV;exact⟨g,A3h _ _,hg⟩
  |false=>exact HX (w:=w) (a:=a) σ dV hg
 have key: ∀xs,Afp c.te aV σ1 fn.results.toList=some xs-> ∃vs:List Value,(results fn a.tmps).run P w=.ok (if h:vs.toArray.size=1 then vs.toArray[0]else .tuple vs.toArray) w/\BB w g1 vs xs:=by
  intro xs lA;obtain⟨vs,h1,h2⟩:=RJ hp f2 fn.results.toList lA;refine⟨vs,?_,h2⟩;have e:fn.results=fn.results.toList.toArray:=Ac;rw[Aab,e,List.mapM_toArray];simp only[Ake,Sem.run_map];rw[h1];rfl
 split at h
 ·rename_i y hy;simp at h;obtain⟨rfl,rfl⟩:=h;obtain⟨vs,k1,k2⟩:=key _ hy
  match vs,k2 with
  |[v],k2=>exact⟨v,g1,by simpa using k1,f1,k2.2 0 v y Y Y,f2.inv⟩
  |[],k2=>simp[BB]at k2
  |_::_::_,k2=>simp[BB]at k2
 ·rename_i xs aE lA;simp at h;obtain⟨rfl,rfl⟩:=h;obtain⟨vs,k1,k2⟩:=key _ lA
  have sC: ¬vs.toArray.size=1:=by
   intro h1;have:xs.length=1:=by rw[<-k2.1];simpa using h1
   match xs,this with
   |[y],_=>exact aE y Y
  rw[dif_neg sC]at k1;exact⟨_,g1,k1,f1,.tuple vs xs k2.1 k2.2,f2.inv⟩
 ·simp at h
end
end Go.Am
namespace Go.Am
section
variable {P:Program} {c:Conf} {cf:Nat->List AV->St->Option (AV×St)}
theorem Ma {env env':A2}: ∀{l:List Operand},(∀x∈l,ev env x=ev env' x)->YL env l=YL env' l
 |[],_=>rfl
 |x::r,h=>by
  simp only[YL];rw[h x Ac,Ma (l:=r) λy hy=>h y (by simp[hy])]
theorem Pw {env env':A2}: ∀{l:List (Nat×Operand)},(∀x∈l.map (·.2),ev env x=ev env' x)->Dx env l=Dx env' l
 |[],_=>rfl
 |(i,x)::r,h=>by
  simp only[Dx];rw[h x Ac,Pw (l:=r) λy hy=>h y (by simp at hy⊢;exact .inr hy)]
theorem K8 {env env':A2} {o:Option Operand} {d:Nat} (h: ∀x,o=some x->ev env x=ev env' x):B4 env o d=B4 env' o d:=by
 cases o with
 |none=>rfl
 |some x=>simp only[B4];rw[h x Y]
theorem V5 {te:TE} {t:Nat} {p:AV} {env env':A2} {lo hi mx:Option Operand} (h1: ∀x,lo=some x->ev env x=ev env' x) (h2: ∀x,hi=some x->ev env x=ev env' x)
  (h3: ∀x,mx=some x->ev env x=ev env' x):Ix te t p env lo hi mx=Ix te t p env' lo hi mx:=by
 unfold Ix;have e1: ∀d,B4 env lo d=B4 env' lo d:=λd=>K8 h1;have e2: ∀d,B4 env hi d=B4 env' hi d:=λd=>K8 h2;have e3: ∀d,B4 env mx d=B4 env' mx d:=λd=>K8 h3;simp only[e1,e2,e3]
theorem KZ {te:TE} {op:Op} {env env':A2} (h: ∀x∈op.operands,ev env x=ev env' x):Cj te op env=Cj te op env':=by
 cases op
 case move x=>simp only[Cj];rw[h x (by simp[Op.operands])]
 case assign x=>simp only[Cj];rw[h x (by simp[Op.operands])]
 case pick x y z=>simp only[Cj];rw[h x (by simp[Op.operands]),h y (by simp[Op.operands]),h z (by simp[Op.operands])]
 case binOp op t x y yt=>simp only[Cj];rw[h x (by simp[Op.operands]),h y (by simp[Op.operands])]
 case unOp op t x=>simp only[Cj];rw[h x (by simp[Op.operands])]
 case convert s d x=>simp only[Cj];rw[h x (by simp[Op.operands])]
 case makeInterface t x=>simp only[Cj];rw[h x (by simp[Op.operands])]
 case makeFunc fn f c=>
  simp only[Cj];rw[Ma (l:=f.toList) λx hx=>h x (by simp[Op.operands];exact .inl (by simpa using hx)),Ma (l:=c.toList) λx hx=>h x (by simp[Op.operands];exact .inr (by simpa using hx))]
 case nilCheck x=>simp only[Cj];rw[h x (by simp[Op.operands])]
 case fieldAddr t x i=>simp only[Cj];rw[h x (by simp[Op.operands])]
 case field t x i=>simp only[Cj];rw[h x (by simp[Op.operands])]
 case indexAddr t x i=>simp only[Cj];rw[h x (by simp[Op.operands]),h i (by simp[Op.operands])]
 case index t x i=>simp only[Cj];rw[h x (by simp[Op.operands]),h i (by simp[Op.operands])]
 case extract x i=>simp only[Cj];rw[h x (by simp[Op.operands])]
 case slice t x lo hi mx=>
  simp only[Cj];rw[h x (by simp[Op.operands])];have:=λp=>V5 (te:=te) (t:=t) (p:=p) (env:=env) (env':=env') (lo:=lo) (hi:=hi) (mx:=mx) (λy hy=>h y (by simp[Op.operands,hy])) (λy hy=>h y (by simp[Op.operands,hy])) (λy hy=>h y (by simp[Op.operands,hy]));simp only[this]
 case call cl=>
  simp only[Cj];split
  ·split
   ·rename_i x y hx
    have hm: ∀z,z∈cl.args.toList->ev env z=ev env' z:=λz hz=>h z (by
     simp only[Op.operands,Call.operands]
     simp;exact .inr (by simpa using hz))
    rw[hm x (by rw[hx];simp),hm y (by rw[hx];simp)]
   ·rfl
  ·split
   ·rename_i x y hx
    have hm: ∀z,z∈cl.args.toList->ev env z=ev env' z:=λz hz=>h z (by
     simp only[Op.operands,Call.operands]
     simp;exact .inr (by simpa using hz))
    rw[hm x (by rw[hx];simp),hm y (by rw[hx];simp)]
   ·rfl
  ·split
   ·rename_i x hx
    rw[h x (by
     simp only[Op.operands,Call.operands];have:x∈cl.args.toList:=by rw[hx];simp
     simp;exact .inr (by simpa using this))]
   ·rfl
  ·rfl
 all_goals rfl
theorem Wy {te:TE} {t:Nat} {env env':A2} {parts:List (Nat×Operand)} (h: ∀x∈parts.map (·.2),ev env x=ev env' x):MZ te t env parts=MZ te t env' parts:=by
 unfold MZ;rw[Pw h]
theorem Ow {te:TE} {t n:Nat} {env env':A2} {parts:List (Nat×Operand)} (h: ∀x∈parts.map (·.2),ev env x=ev env' x):Ep te t n env parts=Ep te t n env' parts:=by
 unfold Ep;rw[Pw h]
theorem Jr {env env':A2} {cl:Call} (h: ∀x∈cl.operands,ev env x=ev env' x):DG c env cl=DG c env' cl:=by
 have ha:YL env cl.args.toList=YL env' cl.args.toList:=Ma λx hx=>h x (by simp only[Call.operands];simp;exact .inr (by simpa using hx));unfold DG;rw[ha];split
 ·rename_i fo hc;rw[h fo (by simp[Call.operands,hc])]
 ·rename_i ro name hc;rw[h ro (by simp[Call.operands,hc])]
 ·rfl
def Ala (te:TE) (t d:Nat) (p q:AV):Option (AV×St):=
 match So te t d p q [] []with
 |some (x,_,s)=>some (x,s)
 |none=>none
theorem Adz {te:TE} {t d:Nat} {p q x:AV} {nb:St} {env:A2} {σ:St} (h:Ala te t d p q=some (x,nb)) (hl:look σ (2*d)=none):
  So te t d p q env σ=some (x,env,nb++σ)/\ ∃B,nb=[(2*d,B)]:=by
 unfold Ala at h;split at h
 ·rename_i y e s hm;simp only[A26,A6p]at h;obtain⟨rfl,rfl⟩:=h;unfold So at hm⊢;split at hm
  ·split at hm
   ·split at hm
    ·split at hm
     ·split at hm
      ·split at hm
       ·split at hm
        ·rename_i h1;split at hm
         ·rename_i h2;simp[E1,look]at hm;obtain⟨rfl,rfl,rfl⟩:=hm;simp only[E1,hl,WU h1,WU h2];exact⟨Y,_,Y⟩
         ·cases hm
        ·cases hm
       ·cases hm
      ·cases hm
     ·cases hm
    ·cases hm
   ·cases hm
  ·cases hm
 ·cases h
def W9 (te:TE) (t d:Nat) (p q:T):Option (AV×St):=
 match look te t with
 |some ⟨_,_,_,.slice e⟩=>match look te e with
  |some ei=>match Jb [] ei.size (.t q)with
   |some news=>match p with
    |.slice .nil _ _=>if news.length*(ei.bytes+1)<=140737488355328 then some (.row (2*d) ei.size 0 news.length,[(2*d,.grow ei.size news)])else none
    |.slice .full cO es=>(match cO with
     |0=>(match es with
      |[]=>if news.length*(ei.bytes+1)<=140737488355328 then some (.row (2*d) ei.size 0 news.length,[(2*d,.grow ei.size news)])else none
      |_::_=>none)
     |_+1=>if cO=ei.size then(if(es.length+news.length)*(ei.bytes+1)<=140737488355328 then some (.t (.slice .any ei.size (es++news)),[])else none)else none)
    |_=>none
   |none=>none
  |none=>none
 |_=>none
theorem Zv {te:TE} {t d:Nat} {p q:T} {x:AV} {nb:St} {env:A2} {σ:St} (h:W9 te t d p q=some (x,nb)) (hl:look σ (2*d)=none):
  Ia te t d (.t p) (.t q) env σ=some (x,env,nb++σ)/\(nb=[]\/ ∃B,nb=[(2*d,B)]):=by
 unfold W9 at h;unfold Ia;have hn: ∀sz,Jb σ sz (.t q)=Jb [] sz (.t q):=λsz=>by cases q<;>rfl
 split at h
 ·rename_i i1 i2 i3 e aH;simp only[aH];split at h
  ·rename_i ei bK;simp only[bK,hn];split at h
   ·rename_i news eX;simp only[eX];split at h
    ·split at h
     ·rename_i hb;simp at h;obtain⟨rfl,rfl⟩:=h;simp[hb,E1,hl]
     ·simp at h
    ·split at h
     ·split at h
      ·split at h
       ·rename_i hb;simp at h;obtain⟨rfl,rfl⟩:=h;simp[hb,E1,hl]
       ·simp at h
      ·simp at h
     ·split at h
      ·rename_i n1 aN;have dF:n1+1=ei.size:=aN;split at h
       ·rename_i hb;simp at h;obtain⟨rfl,rfl⟩:=h;simp[dF,hb]
       ·simp at h
      ·simp at h
    ·simp at h
   ·simp at h
  ·simp at h
 ·simp at h
def Ss (te:TE) (t:Nat) (news:List Nat) (p:AV) (σ:St):Option AV:=
 match p with
 |.ref b _=>(match Kl b news with
  |true=>none
  |false=>I6 te t p σ)
 |.eref b _ _ _=>(match Kl b news with
  |true=>none
  |false=>I6 te t p σ)
 |.t _=>I6 te t p σ
 |_=>none
def Kw (dst:Option Nat) (r:AV) (σ2 σ:St):Option (AV×St):=
 match dst with
 |some d=>match r with
  |.row cl sz lo n=>match look σ2 cl with
   |some (.grow cO es)=>match Nat.ble cl (2*d)with
    |true=>match look σ (2*d)with
     |none=>some (.row (2*d) sz lo n,[(2*d,.grow cO es)])
     |some _=>none
    |false=>none
   |_=>none
  |_=>none
 |none=>none
theorem NY {dst:Option Nat} {r x:AV} {σ2 σ nb:St} (h:Kw dst r σ2 σ=some (x,nb)): ∃d cl sz lo n cO es,dst=some d/\r=.row cl sz lo n/\look σ2 cl=some (.grow cO es)/\cl<=2*d/\look σ (2*d)=none/\x=.row (2*d) sz lo n/\nb=[(2*d,.grow cO es)]:=by
 unfold Kw at h;split at h
 ·rename_i d;split at h
  ·rename_i cl sz lo n;split at h
   ·rename_i cO es hl;split at h
    ·rename_i hb;split at h
     ·rename_i hn;simp at h;exact⟨d,cl,sz,lo,n,cO,es,Y,Y,hl,by simpa using hb,hn,h.1.symm,h.2.symm⟩
     ·cases h
    ·cases h
   ·cases h
  ·cases h
 ·cases h
def Aca (te:TE) (t u:Nat) (x:Option AV):Option AV:=
 match x with
 |some (.t (.str b))=>match look te t with
  |some ⟨_,_,_,.string⟩=>match look te u with
   |some ⟨_,_,_,.slice e⟩=>match look te e with
    |some ⟨_,_,_,.int .u8⟩=>some (.t (.slice .any 1 (b.map λc=>[T.int .u8 (c.toNat:Int)])))
    |_=>none
   |_=>none
  |_=>none
 |_=>none
def Cz (c:Conf) (cf:Nat->List AV->St->Option (AV×St)) (news:List Nat) (o:Oper) (env:A2) (σ:St):Option (AV×St):=
 match o.op with
 |.alloc t=>match o.dst with
  |some d=>match look c.te t with
   |some ti=>match look σ (2*d)with
    |none=>some (.ref (2*d) 0,[(2*d,.cells (Af ti.zero))])
    |some _=>none
   |none=>none
  |none=>none
 |.box t x=>match o.dst with
  |some d=>match ev env x with
   |some y=>match II y with
    |some cs=>match Kl t c.imm with
     |true=>match allT cs with
      |some ts=>some (.t (.ptr ts),[])
      |none=>none
     |false=>match look σ (2*d)with
      |none=>some (.ref (2*d) 0,[(2*d,.cells cs)])
      |some _=>none
    |none=>none
   |none=>none
  |none=>none
 |.build t parts=>match MZ c.te t env parts.toList with
  |some x=>some (x,[])
  |none=>none
 |.buildSlice t n parts=>match Ep c.te t n env parts.toList with
  |some x=>some (x,[])
  |none=>none
 |.load t p=>match ev env p with
  |some q=>match Ss c.te t news q σ with
   |some x=>some (x,[])
   |none=>none
  |none=>none
 |.store _ _ _=>none
 |.makeSlice t l k=>match o.dst with
  |some d=>match ev env l with
   |some p=>match ev env k with
    |some q=>match look σ (2*d)with
     |none=>Ala c.te t d p q
     |some _=>none
    |none=>none
   |none=>none
  |none=>none
 |.call cl=>match cl.callee with
  |.builtin .append=>match cl.args.toList,cl.argTypes.toList,o.dst with
   |[s,x],[t,t'],some d=>if t=t' then(match ev env s,ev env x with
    |some (.t p),some (.t q)=>match look σ (2*d)with
     |none=>W9 c.te t d p q
     |some _=>none
    |_,_=>none)else none
   |_,_,_=>none
  |.builtin _=>match Cj c.te o.op env with
   |some x=>some (x,[])
   |none=>none
  |_=>match DG c env cl with
   |some (f,as)=>match ED as with
    |true=>match cf f as []with
     |some (r,σ2)=>match r.free with
      |true=>some (r,[])
      |false=>Kw o.dst r σ2 σ
     |none=>none
    |false=>none
   |none=>none
 |.convert t u x=>match Aca c.te t u (ev env x)with
  |some y=>some (y,[])
  |none=>match Cj c.te o.op env with
   |some x=>some (x,[])
   |none=>none
 |_=>match Cj c.te o.op env with
  |some x=>some (x,[])
  |none=>none
def C1 (o:Oper):List Nat:=
 match o.op with
 |.alloc _=>(match o.dst with
  |some d=>[2*d]
  |none=>[])
 |.box _ _=>(match o.dst with
  |some d=>[2*d]
  |none=>[])
 |.call _=>(match o.dst with
  |some d=>[2*d]
  |none=>[])
 |.makeSlice _ _ _=>(match o.dst with
  |some d=>[2*d]
  |none=>[])
 |_=>[]
theorem I3 {n:Nat}: ∀{l:List Nat},Kl n l=true↔n∈l
 |[]=>by simp[Kl]
 |k::r=>by
  by_cases h:k=n
  ·subst h;simp[Kl]
  ·simp only[Kl,CF h,A61,Als];rw[I3];constructor
   ·exact .inr
   ·rintro(h'|h')
    ·exact absurd h'.symm h
    ·exact h'
theorem Yk {te:TE} {t:Nat} {news:List Nat} {p:AV} {σ σ':St} (h: ∀b,b∉news->look σ b=look σ' b):Ss te t news p σ=Ss te t news p σ':=by
 unfold Ss;split
 ·rename_i b off;split
  ·rfl
  ·rename_i hm;have hb:look σ b=look σ' b:=h b (λhc=>by rw[I3.2 hc]at hm;cases hm);unfold I6;simp only[hb]
 ·rename_i b sz k off;split
  ·rfl
  ·rename_i hm;have hb:look σ b=look σ' b:=h b (λhc=>by rw[I3.2 hc]at hm;cases hm);unfold I6;simp only[hb]
 ·rename_i x;unfold I6
  cases look te t with
  |none=>rfl
  |some ti=>cases x<;>rfl
 ·rfl
theorem Ex {news:List Nat} {o:Oper} {env env':A2} {σ σ':St} (h: ∀x∈o.op.operands,ev env x=ev env' x) (hs: ∀b,b∉news->look σ b=look σ' b)
  (hn: ∀b∈C1 o,look σ b=look σ' b):Cz c cf news o env σ=Cz c cf news o env' σ':=by
 unfold Cz;split
 ·rename_i t ho;split
  ·rename_i d hd;rw[hn (2*d) (by simp[C1,ho,hd])]
  ·rfl
 ·rename_i t x ho;split
  ·rename_i d hd;rw[h x (by simp[ho,Op.operands]),hn (2*d) (by simp[C1,ho,hd])]
  ·rfl
 ·rename_i t parts ho;rw[Wy λx hx=>h x (by simp[ho,Op.operands];simpa using hx)]
 ·rename_i t n parts ho;rw[Ow λx hx=>h x (by simp[ho,Op.operands];simpa using hx)]
 ·rename_i t p ho;rw[h p (by simp[ho,Op.operands])];split
  ·rw[Yk hs]
  ·rfl
 ·rfl
 ·rename_i t l k ho;split
  ·rename_i d hd;rw[h l (by simp[ho,Op.operands]),h k (by simp[ho,Op.operands]),hn (2*d) (by simp[C1,ho,hd])]
  ·rfl
 ·rename_i cl ho;have iN: ∀x∈cl.operands,ev env x=ev env' x:=λx hx=>h x (by rw[ho];exact hx);split
  ·rename_i hc;split
   ·rename_i s x t t' d ha ht hd;have hm: ∀y,y∈cl.args.toList->y∈cl.operands:=λy hy=>by simp only[Call.operands];simp;exact .inr (by simpa using hy)
    rw[iN s (hm s (by rw[ha];simp)),iN x (hm x (by rw[ha];simp)),hn (2*d) (by simp[C1,ho,hd])]
   ·rfl
  ·rw[KZ h]
  ·have hh: ∀r σ2,Kw o.dst r σ2 σ=Kw o.dst r σ2 σ':=λr σ2=>by
    unfold Kw;split
    ·rename_i d hd;rw[hn (2*d) (by simp[C1,ho,hd])]
    ·rfl
   simp only[Jr iN,hh]
 ·rename_i t u x ho;rw[h x (by simp[ho,Op.operands]),KZ h]
 ·rw[KZ h]
theorem Aqx {te:TE} {t:Nat} {news:List Nat} {p x:AV} {σ:St} (h:Ss te t news p σ=some x):I6 te t p σ=some x:=by
 unfold Ss at h;split at h
 ·split at h
  ·simp at h
  ·exact h
 ·split at h
  ·simp at h
  ·exact h
 ·exact h
 ·simp at h
theorem Rv {news:List Nat} {o:Oper} {env:A2} {σ nb:St} {x:AV} (h:Cz c cf news o env σ=some (x,nb)):nb=[]\/ ∃d B,o.dst=some d/\nb=[(2*d,B)]/\C1 o=[2*d]/\look σ (2*d)=none:=by
 unfold Cz at h;split at h
 ·rename_i t ho;split at h
  ·rename_i d hd;split at h
   ·split at h
    ·rename_i hl;simp at h;exact .inr ⟨d,_,hd,h.2.symm,by simp[C1,ho,hd],hl⟩
    ·simp at h
   ·simp at h
  ·simp at h
 ·rename_i t y ho;split at h
  ·rename_i d hd;split at h
   ·split at h
    ·split at h
     ·split at h
      ·simp at h;exact .inl h.2
      ·simp at h
     ·split at h
      ·rename_i hl;simp at h;exact .inr ⟨d,_,hd,h.2.symm,by simp[C1,ho,hd],hl⟩
      ·simp at h
    ·simp at h
   ·simp at h
  ·simp at h
 ·split at h
  ·simp at h;exact .inl h.2
  ·simp at h
 ·split at h
  ·simp at h;exact .inl h.2
  ·simp at h
 ·split at h
  ·split at h
   ·simp at h;exact .inl h.2
   ·simp at h
  ·simp at h
 ·simp at h
 ·rename_i t l k ho;split at h
  ·rename_i d hd;split at h
   ·split at h
    ·split at h
     ·rename_i hl;obtain⟨_,B,hB⟩:=Adz (env:=env) h hl;exact .inr ⟨d,B,hd,hB,by simp[C1,ho,hd],hl⟩
     ·cases h
    ·cases h
   ·cases h
  ·cases h
 ·rename_i cl ho;split at h
  ·rename_i hc;split at h
   ·rename_i s y t t' d ha ht hd;split at h
    ·split at h
     ·split at h
      ·rename_i hl;obtain⟨_,hB|⟨B,hB⟩⟩:=Zv (env:=env) h hl
       ·exact .inl hB
       ·exact .inr ⟨d,B,hd,hB,by simp[C1,ho,hd],hl⟩
      ·simp at h
     ·simp at h
    ·simp at h
   ·simp at h
  ·split at h
   ·simp at h;exact .inl h.2
   ·simp at h
  ·split at h
   ·split at h
    ·split at h
     ·split at h
      ·simp at h;exact .inl h.2
      ·obtain⟨d,cl',sz,lo,n,cO,es,q1,q2,q3,q4,q5,q6,q7⟩:=NY h;exact .inr ⟨d,_,q1,q7,by simp[C1, *],q5⟩
     ·simp at h
    ·simp at h
   ·simp at h
 ·split at h
  ·simp at h;exact .inl h.2
  ·split at h
   ·simp at h;exact .inl h.2
   ·simp at h
 ·split at h
  ·simp at h;exact .inl h.2
  ·simp at h
theorem Ab9 (aH:Dr P c.te) {w:World} {g:G} {σ:St} (hi:Inv w g σ) {a:Act} {env:A2} (he:AQ w g a env) {t u:Nat} {xo:Operand} {o:Oper} {y:AV} (ho:o.op=.convert t u xo) (h:Aca c.te t u (ev env xo)=some y):
  BN P o a w λv w'=> ∃g',Ext w g w' g'/\Rel w' g' v y/\Inv w' g' σ/\AQ w' g' a env:=by
 unfold Aca at h;split at h
 ·rename_i b hx;split at h
  ·rename_i a1 a2 a3 ht;split at h
   ·rename_i a4 a5 a6 e hu;split at h
    ·rename_i a7 a8 a9 iE;simp at h;subst h
     have h1:P.underlying t=some .string:=by
      obtain⟨dd,iS,d9⟩:=(aH _ _ ht).und';cases dd<;>simp[Dp]at d9;exact iS
     have h2:P.underlying u=some (.slice e):=by
      obtain⟨dd,iS,d9⟩:=(aH _ _ hu).und';cases dd<;>simp[Dp]at d9;subst d9;exact iS
     have h3:P.underlying e=some (.int .u8):=by
      obtain⟨dd,iS,d9⟩:=(aH _ _ iE).und';cases dd<;>simp[Dp]at d9;subst d9;exact iS
     have hs:=Gl (AF he hx);have aM:=run_bytes_of_string (P:=P) w t u e ⟨b.toArray⟩ h1 h2 h3;have dN:=A63 w b.length 0 e;generalize jL:grownCap w (ByteArray.size ⟨b.toArray⟩) 0 e=cap at aM;have aN:(ByteArray.size ⟨b.toArray⟩)=b.length:=by simp[ByteArray.size]
     rw[aN]at jL aM;rw[jL]at dN;have hm:=A3i w (.cells (bytesRow ⟨b.toArray⟩ cap) e ((bytesRow ⟨b.toArray⟩ cap).size,(bytesRow ⟨b.toArray⟩ cap).size+1));obtain⟨k1,k2,k3⟩:=Fs hi hm;refine BN.value (by simp only[execOp,ho,hs,Ake,aM,Y5];rfl) ⟨g,k1,.t _ _ ?_,k2,λq x hq=>k3 _ _ (he q x hq)⟩
     have eK:(b.map λc=>[T.int .u8 (c.toNat:Int)]).flatten=b.map λc=>T.int .u8 (c.toNat:Int):=by
      clear hs aM aN jL dN hm k1 k2 k3 hx
      induction b with
      |nil=>rfl
      |cons x r ih=>simp only[A5h,A5g,ih,List.singleton_append]
     have hM: ∀o,¬g.M w.heap.size o:=λo hM=>by
      have:w.heap.size<w.heap.size:=by
       rcases hM with h|h
       ·exact hi.lt _ (.inl h.1)
       ·exact hi.lt _ (.inr ⟨_,h⟩)
      omega
     refine .slice w.heap.size 0 b.length cap .any 1 _ (λi=>Value.int .u8 ((b.getD i 0).toNat:Int)) (Ts ..) dN (λh=>by cases h) (λh=>by cases h) (λ_ _ h=>by cases h) (λx hx=>by simp at hx;obtain⟨z,_,rfl⟩:=hx;rfl) (λi x hx=>?_) (λi x hx=>⟨hM _,?_⟩) (λi x hx=>?_);all_goals rw[eK,A42]at hx
     all_goals obtain⟨z,hz,rfl⟩:=Option.map_eq_some_iff.1 hx
     ·rfl
     ·have aC:=(ZH.1 hz).1
      have aL:(bytesRow ⟨b.toArray⟩ cap)[i]?=some (Value.int .u8 ((b.getD i 0).toNat:Int)):=by
       simp[bytesRow,Array.getElem?_append,aC,List.getD,hz]
      have hn:=hm.new;unfold World.cell?;simp only[Atj];rw[hn];exact aL
     ·have:b.getD i 0=z:=by simp[List.getD,hz]
      show RelT _ _ (Value.int .u8 ((b.getD i 0).toNat:Int)) _;rw[this];exact .int _ _
    ·simp at h
   ·simp at h
  ·simp at h
 ·simp at h
theorem GY (hp:ProgOk P c) (fB:O1 P cf) {w:World} {g:G} {σ:St} (hi:Inv w g σ) {a:Act} {env:A2} (he:AQ w g a env) {news:List Nat} {o:Oper} {x:AV} {nb:St}
  (h:Cz c cf news o env σ=some (x,nb)):BN P o a w λv w'=> ∃g',Ext w g w' g'/\Rel w' g' v x/\Inv w' g' (nb++σ)/\AQ w' g' a env:=by
 have pcase: ∀x,Cj c.te o.op env=some x->BN P o a w λv w'=> ∃g',Ext w g w' g'/\Rel w' g' v x/\Inv w' g' σ/\AQ w' g' a env:=λx hx=>by
  obtain⟨v,h1,h2⟩:=RR (P:=P) hp.te he hx;exact BN.value h1 ⟨g,A3h _ _,h2,hi,he⟩
 have mcase: ∀x env' σ',Gp c.toCfg o env σ=some (x,env',σ')->BN P o a w (FI w g a x env' σ'):=λx env' σ' hm=>FZ hp.te hi he hm;unfold Cz at h;split at h
 ·rename_i t ho;split at h
  ·rename_i d hd;split at h
   ·rename_i ti hl;split at h
    ·rename_i cU;simp at h;obtain⟨rfl,rfl⟩:=h;exact mcase _ env ((2*d,.cells (Af ti.zero))::σ) (by simp[Gp,ho,hd,hl,E1,cU,LO])
    ·simp at h
   ·simp at h
  ·simp at h
 ·rename_i t y ho;split at h
  ·rename_i d hd;split at h
   ·rename_i z hz;split at h
    ·rename_i cs bZ;split at h
     ·rename_i hm;split at h
      ·rename_i ts fS;simp at h;obtain⟨rfl,rfl⟩:=h;exact mcase _ env σ (by simp[Gp,ho,hd,hm,hz,bZ,fS])
      ·simp at h
     ·rename_i hm;split at h
      ·rename_i cU;simp at h;obtain⟨rfl,rfl⟩:=h;exact mcase _ env ((2*d,.cells cs)::σ) (by simp[Gp,ho,hd,hm,E1,cU,hz,bZ,LO])
      ·simp at h
    ·simp at h
   ·simp at h
  ·simp at h
 ·rename_i t parts ho;split at h
  ·rename_i z hz;simp at h;obtain⟨rfl,rfl⟩:=h;exact mcase _ env σ (by simp[Gp,ho,hz])
  ·simp at h
 ·rename_i t n parts ho;split at h
  ·rename_i z hz;simp at h;obtain⟨rfl,rfl⟩:=h;exact mcase _ env σ (by simp[Gp,ho,hz])
  ·simp at h
 ·rename_i t p ho;split at h
  ·rename_i q hq;split at h
   ·rename_i z hz;simp at h;obtain⟨rfl,rfl⟩:=h;exact mcase _ env σ (by simp[Gp,ho,hq,Aqx hz])
   ·simp at h
  ·simp at h
 ·simp at h
 ·rename_i t l k ho;split at h
  ·rename_i d hd;split at h
   ·rename_i p hq;split at h
    ·rename_i q hq2;split at h
     ·rename_i hl;obtain⟨hm,_⟩:=Adz (env:=env) h hl;exact mcase _ env (nb++σ) (by simp[Gp,ho,hd,hq,hq2,hm])
     ·cases h
    ·cases h
   ·cases h
  ·cases h
 ·rename_i cl ho;split at h
  ·rename_i bR;split at h
   ·rename_i s y t t' d ha ht hd;split at h
    ·rename_i qI;split at h
     ·rename_i p q hs hy;split at h
      ·rename_i hl;obtain⟨h1,_⟩:=Zv (env:=env) h hl;refine mcase _ env (nb++σ) ?_;simp[Gp,ho,bR,ha,hs,hy,ht,hd,qI];subst qI;exact h1
      ·simp at h
     ·simp at h
    ·simp at h
   ·simp at h
  ·split at h
   ·rename_i z hz;simp at h;obtain⟨rfl,rfl⟩:=h;exact pcase _ hz
   ·simp at h
  ·split at h
   ·rename_i f as hc;split at h
    ·rename_i gJ;split at h
     ·rename_i r σ2 hr;split at h
      ·rename_i bP;simp at h;obtain⟨rfl,rfl⟩:=h;obtain⟨⟨fn,hf,hb⟩,hca⟩:=fB _ _ _ _ _ hr;obtain⟨vs,aM,aJ⟩:=Dc hp he hc ho hf hb;refine BN.enter aM ((hca vs w g.pureIn ⟨aJ.1,λi v x hv hx=>?_⟩ (Ka hi)).mono ?_)
       ·exact(aJ.2 i v x hv hx).free (λb o v h1 h2=>⟨λh=>h1 ((O0 b o).1 h),h2⟩) (Ft gJ i x hx)
       ·rintro e w' ⟨v,g',rfl,h1,h2,h3⟩;obtain⟨k1,k2,k3,k4⟩:=RT hi h3 h1;exact⟨v,Y,_,k1,k4 _ _ h2 bP,k2,he.mono k3⟩
      ·obtain⟨d,cl',sz,lo,n,cO,es,q1,rfl,q3,q4,q5,rfl,rfl⟩:=NY h;obtain⟨⟨fn,hf,hb⟩,hca⟩:=fB _ _ _ _ _ hr;obtain⟨vs,aM,aJ⟩:=Dc hp he hc ho hf hb;refine BN.enter aM ((hca vs w g.pureIn ⟨aJ.1,λi v x hv hx=>?_⟩ (Ka hi)).mono ?_)
       ·exact(aJ.2 i v x hv hx).free (λb o v h1 h2=>⟨λh=>h1 ((O0 b o).1 h),h2⟩) (Ft gJ i x hx)
       ·rintro e w' ⟨v,g',rfl,h1,h2,h3⟩;obtain⟨k1,k2,k3,k4⟩:=RT hi h3 h1;have tX:=OD hi h1;have hk:cl'+(2*d-cl')=2*d:=Aa
        obtain⟨m1,m2,m3⟩:=S7 (k:=2*d-cl') (τ:=[(cl',.grow cO es)]) k2 (λb B hB=>by
         rw[Ap]at hB;split at hB
         ·rename_i e;subst e;cases hB;exact⟨⟨_,_,Y⟩,h3.ok _ _ q3⟩
         ·simp[look]at hB) h3.inj (by simp[To,P6,hk,q5]) tX (λb hb=>.inr hb) (λc aA p2=>by
         have qH:=(EX h3 p2).2.1;have cH: ¬g.own aA:=λq1=>h1.own aA (hi.lt aA (.inl q1)) qH;simp only[G.pureOut,cH,ZF]
         exact h3.sx.bs c aA p2) (λb c aA p1 p2=>by
         have nZ:=(EX hi p1).1;have qH:=(EX h3 p2).2.1
         exact h1.own aA nZ qH)
        have gV:=m3 _ _ h2 (by simp[Z7,look]);simp only[Z6,hk]at gV;simp only[To,hk,A5n,A6w]at m1;refine⟨v,Y,(g.pureOut g').hand g' (2*d-cl') [(cl',.grow cO es)],⟨k1.size,k1.keep,k1.own,k1.oth,k1.shape,λb hb=>⟨hb,?_⟩,⟨Y,k1.lo.2⟩,k1.sp⟩,gV,m1,(he.mono k3).mono m2⟩;obtain⟨_,cs,q⟩:=hi.bx b hb;have aE:2*d≠b:=λe=>by rw[<-e,q5]at q;cases q
        simp only[G.hand,To,hk,Ap,Ug aE,look];rfl
     ·simp at h
    ·simp at h
   ·simp at h
 ·rename_i t u y ho;split at h
  ·rename_i z hz;simp at h;obtain⟨rfl,rfl⟩:=h;exact Ab9 hp.te hi he ho hz
  ·split at h
   ·rename_i z hz;simp at h;obtain⟨rfl,rfl⟩:=h;exact pcase _ hz
   ·simp at h
 ·split at h
  ·rename_i z hz;simp at h;obtain⟨rfl,rfl⟩:=h;exact pcase _ hz
  ·simp at h
end
