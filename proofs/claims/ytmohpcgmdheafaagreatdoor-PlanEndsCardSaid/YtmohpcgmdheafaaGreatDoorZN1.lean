/- The general texts of the abstract machine, joined: Am13, Amm, Am14, Am15, Am16, Am17, Am18, Am19, Am20. -/
import Derived.Test.YtmohpcgmdheafaaGreatDoorZM1
import Derived.Laws.MakeOwn
import Derived.LoopN
import Derived.Tactics
import Derived.Laws.IdiomStrings
set_option linter.unusedVariables false
set_option linter.unusedSimpArgs false
namespace Go.Am
section
variable {P:Program} {te:TE} {w w':World} {g:G} {σ:St}
theorem PI (hi:Inv w g σ) {lab blk:Nat} (hl:look σ lab=none) (hown:g.own blk) (hsp:g.sp blk=none) (hno: ∀c,g.β c≠some (some blk)) {vs vs':Array Value} {e:TypeId} (hh:w.heap[blk]?=some (.cells vs e (0,0)))
  (hs:vs'.size=vs.size) (hw:Sets w w' blk vs' e) {B:Blk} (hB:(∀v x,Rel w g v x->Rel w' (g.with lab (some blk)) v x)->Fc w' (g.with lab (some blk)) lab B):
  Ext w g w' (g.with lab (some blk))/\Inv w' (g.with lab (some blk)) ((lab,B)::σ)/\(∀v x,Rel w g v x->Rel w' (g.with lab (some blk)) v x):=by
 have hn:=hi.none hl
 have hbx: ∀b,g.bx b->b≠lab:=by
  intro b hb e;subst e;obtain⟨cs,h⟩:=(hi.bx _ hb).2;rw[hl]at h;cases h
 have hshape: ∀c p,w.shape? c=some p->w'.shape? c=some p:=by
  intro c p hp
  by_cases e':c=blk
  ·subst e'
   simp only[World.shape?,hh]at hp
   simp only[World.shape?,hw.new,hs];exact hp
  ·rw[HT (hw.old c e')];exact hp
 have hown': ∀c,(g.with lab (some blk)).own c->g.own c:=by
  rintro c (h|h)
  ·exact h
  ·simp at h;subst h;exact hown
 have hext:Ext w g w' (g.with lab (some blk)):=⟨by rw[hw.size];omega,fun c _ hc=>hw.old c (fun e'=>hc (e'▸hown)),fun c _ h=>hown' c h,fun _ _=>Iff.rfl,hshape,fun b hb=>⟨hb,by simp[G.with,hbx b hb]⟩,⟨Y,hw.same⟩,Gt (fun _ _ _ _ h=>h) (fun c e _ _ h=>hw.old c (fun e'=>by subst e';rw[hsp]at h;cases h))⟩
 have hr: ∀v x,Rel w g v x->Rel w' (g.with lab (some blk)) v x:=fun v x h=>by
  refine h.mono hext.keeps (fun b p hb=>?_) hshape
  have hne:b≠lab:=by intro e;rw[e,hn]at hb;cases hb
  simp[G.with,hne,hb]
 refine⟨hext,⟨?_,?_,?_,?_,fun b hb=>⟨(hi.bx b hb).1,by rw[Ao,if_neg (Ne.symm (hbx b hb))];exact(hi.bx b hb).2⟩,fun c o hc=>hi.dis c o (hown' c hc),hi.im_of hext.keeps,(by have:=hi.lo;rw[hw.size];exact this),hi.sx.mono (by rw[hw.size];exact Nat.le_refl _) Y (fun _ _ _ h=>.inl h) (fun c e h _ _=>hw.old c (fun e'=>by subst e';rw[hsp]at h;cases h)) (fun c b1 h=>?_) (fun b L hL=>?_)⟩,hr⟩
 ·intro b C hC
  rw[Ao]at hC
  split at hC
  ·rename_i e';subst e';simp at hC;subst hC;exact hB hr
  ·rename_i hne
   refine(hi.ok b C hC).mono (by simp[G.with,Ne.symm hne]) (fun _ _ h=>.inl h) (fun blk' hb'=>hw.old _ ?_) hr
   intro e';subst e';exact hno _ hb'
 ·intro b
  rw[Ao]
  by_cases e':lab=b
  ·subst e';simp[G.with]
  ·simp only[if_neg e'];rw[hi.dom b];simp[G.with,Ne.symm e']
 ·intro b b' blk' h1 h2
  simp only[G.with]at h1 h2
  by_cases e1:b=lab<;>by_cases e2:b'=lab
  ·rw[e1,e2]
  ·rw[if_pos e1]at h1;rw[if_neg e2]at h2
   simp at h1;subst h1;exact absurd h2 (hno _)
  ·rw[if_neg e1]at h1;rw[if_pos e2]at h2
   simp at h2;subst h2;exact absurd h1 (hno _)
  ·rw[if_neg e1]at h1;rw[if_neg e2]at h2
   exact hi.inj _ _ _ h1 h2
 ·rintro c (h|h)
  ·rw[hw.size];exact hi.lt c (.inl (hown' c h))
  ·rw[hw.size];exact hi.lt c (.inr h)
 ·simp only[G.with]at h
  split at h
  ·simp at h;subst h;exact .inr hsp
  ·exact .inl ⟨c,h⟩
 ·rw[Ao]at hL
  split at hL
  ·rename_i e';subst e';simp at hL;subst hL
   have h1:(g.with lab (some blk)).β lab=some none:=hB hr
   simp[G.with]at h1
  ·exact hL
theorem Ahm (hi:Inv w g σ) {sz:Nat} {x:AV} {v:Value} {news:List (List T)} (hx:Rel w g v x) (h:L7 σ sz x=some news):
  ((v=.slice none 0 0\/ ∃a,v=.slice (some a) 0 0)/\news=[])\/ ∃b off cap,v=.slice (some ⟨b,off,none⟩) news.length cap/\(∀e∈news,e.length=sz)/\
   ∀(i:Nat) y,news.flatten[i]?=some y->CK y=true/\ ∃u,w.cell? ⟨b,off+i,none⟩=some u/\RelT w g.M u y:=by
 unfold L7 at h
 split at h
 ·rename_i m sz' es
  split at h
  ·rename_i hsz
   simp at h;subst h;subst hsz
   rcases Cq (Aw hx)with⟨h1,h2⟩|⟨b,off,cap,h1,_,_,_,hall,hc⟩|⟨a,h1,h2,_⟩
   ·exact .inl ⟨.inl h1,h2⟩
   ·exact .inr ⟨b,off,cap,h1,hall,fun i y hy=>(hc i y hy).2⟩
   ·exact .inl ⟨.inr ⟨a,h1⟩,h2⟩
  ·split at h
   ·simp at h;subst h
    rcases Cq (Aw hx)with⟨h1,_⟩|⟨b,off,cap,h1,_⟩|⟨a,h1,_⟩
    ·exact .inl ⟨.inl h1,Y⟩
    ·exact .inr ⟨b,off,cap,h1,by simp,by simp⟩
    ·exact .inl ⟨.inr ⟨a,h1⟩,Y⟩
   ·simp at h
 ·rename_i b sz' lo len
  split at h
  ·rename_i sz'' es hs
   split at h
   ·rename_i h1
    split at h
    ·rename_i h2
     split at h
     ·rename_i hle
      simp at h;subst h
      subst h1;subst h2
      have hlen:((es.drop lo).take len).length=len:=by simp;omega
      cases hx with
      |rowNil _ _ a0 ha0 _=>
       cases a0 with
       |none=>exact .inl ⟨.inl Y,by simp⟩
       |some x=>exact .inl ⟨.inr ⟨x,Y⟩,by simp⟩
      |row _ _ _ _ blk o cap e n hb hsh ho hl hn=>
       refine .inr ⟨blk,o,cap,by rw[hlen],?_,?_⟩
       ·obtain⟨hall,_⟩:=hi.ok b _ hs
        intro e he;exact hall e (List.mem_of_mem_drop (List.mem_of_mem_take he))
       ·intro i y hy
        obtain⟨hall,hok⟩:=hi.ok b _ hs
        rcases hok with⟨hn',_⟩|⟨blk',vs,e',k1,k2,k3,k4,k5⟩
        ·rw[hn']at hb;cases hb
        ·rw[k1]at hb;cases hb
         have hlt0:=AW hy
         have hne:len≠0:=by
          intro h0;subst h0;simp at hlt0
         have ho':o=lo*sz:=by rcases ho with h'|h'<;>omega
         have hfl:=C7 sz es hall lo len i y hy
         have hlt:=AW hfl
         obtain⟨v,hv⟩: ∃v,vs[lo*sz+i]?=some v:=⟨vs[lo*sz+i]' Aa,Array.getElem?_eq_getElem _⟩
         have:=k5 _ v y hv hfl
         exact⟨this.1,v,by rw[ho',EH k3];exact hv,this.2⟩
     ·simp at h
    ·simp at h
   ·simp at h
  ·simp at h
 ·simp at h
theorem Aj5 (t ty e:Nat) (i:TypeInfo) (hi:P.info? e=some i) (ht:P.underlying t=some (.slice e)) (c l:Nat) (b:Option Addr) (hl:l<=c):
  (Builtin.append_ #[t,t] ty #[.slice b l c,.slice none 0 0]).run P w=.ok (.slice b l c) w:=by
 cases b<;>simp[Builtin.append_,Go.run_underlying ht,sizeOf,typeInfo,hi,Builtin.lenOf,Builtin.firstCells,hl,storeCells]
theorem XV (t ty e:Nat) (i:TypeInfo) (hi:P.info? e=some i) (ht:P.underlying t=some (.slice e)) (c l c':Nat) (b:Option Addr) (a:Addr) (hl:l<=c):
  (Builtin.append_ #[t,t] ty #[.slice b l c,.slice (some a) 0 c']).run P w=.ok (.slice b l c) w:=by
 cases b<;>simp[Builtin.append_,Go.run_underlying ht,sizeOf,typeInfo,hi,Builtin.lenOf,Builtin.firstCells,loadCells,loadCellsFrom,hl,storeCells]
theorem Aj4 (t ty e:Nat) (i:TypeInfo) (ht:P.underlying t=some (.slice e)) (hi:P.info? e=some i)
  (blk sLen sCap:Nat) (et:Nat) (cur:Array Value) (hg:w.heap[blk]?=some (.cells cur et (0,0)))
  (a:Addr) (m c:Nat) (news:List Value) (hl:news.length=m*i.size) (hnews: ∀j u,news[j]?=some u->w.cell? (a.add j)=some u) (h1: ∀u∈news,u.oneCell'=true)
  (hroom:sLen+m<=sCap) (hfit:sLen*i.size+news.length<=cur.size):
  (Builtin.append_ #[t,t] ty #[.slice (some ⟨blk,0,none⟩) sLen sCap,.slice (some a) m c]).run P w=
   .ok (.slice (some ⟨blk,0,none⟩) (sLen+m) sCap) (w.setRow blk (cur.toList.take (sLen*i.size)++news++cur.toList.drop (sLen*i.size+news.length)).toArray):=by
 have hf:=run_firstCells_some (P:=P) w i.size m a m c news hl hnews
 have hst:=run_storeCells_at P blk (sLen*i.size) et news 0 cur w hg (by simpa using hfit) h1
 simp only[Nat.add_zero]at hst
 simp[Builtin.append_,Go.run_underlying ht,sizeOf,typeInfo,hi,Builtin.lenOf,hroom,hf,Addr.add_lit,hst]
theorem Ext.same_world {g1:G} (h:Ext w g w g1) {v:Value} {x:T} (hr:RelT w g.M v x):RelT w g1.M v x:=hr.mono h.keeps
theorem Nw {g1:G} {σ1:St} {a:Act} {env1:Env} {lab sz cap e:Nat} {es':List (List T)} {arr:Array Value} (hi:Inv w g1 σ1) (hl:look σ1 lab=none) (he:AK w g1 a env1)
  (hm:More w w' (.cells arr e (0,0))) (hall: ∀e∈es',e.length=sz) (hlen:es'.flatten.length<=arr.size) (hcap:es'.length<=cap) (hsz:cap*sz<=arr.size)
  (hrel: ∀(i:Nat) v y,arr[i]?=some v->es'.flatten[i]?=some y->CK y=true/\RelT w g1.M v y):
  ER w g1 a (.row lab sz 0 es'.length) env1 ((lab,.grow sz es')::σ1) (.slice (some ⟨w.heap.size,0,none⟩) es'.length cap) w':=by
 obtain⟨h1,h2,h3⟩:=KS hi hl hm (B:=.grow sz es') (fun hr=>⟨hall,.inr ⟨w.heap.size,arr,e,by simp[G.with],.inr Y,hm.new,hlen,fun i v y hv hy=>
  ⟨(hrel i v y hv hy).1,Aw (hr _ _ (.t _ _ (hrel i v y hv hy).2))⟩⟩⟩)
 refine⟨_,h1,?_,h2,he.mono h3⟩
 exact .row lab sz 0 _ w.heap.size 0 cap e arr.size (by simp[G.with]) (by simp[World.shape?,hm.new]) (.inl Ac) hcap (by simpa using hsz)
theorem D8 {n b:Nat} (h:n*(b+1)<=140737488355328):n*b<=140737488355328/\n<=140737488355328:=by
 rw[Nat.mul_add,Nat.mul_one]at h
 omega
structure SrcOk (P:Program) (w:World) (t u ty e:Nat) (ux:Value) (m:Nat) (ns:List Value) (ei:TI):Prop where
 same:m=0-> ∀b l c,l<=c->(Builtin.append_ #[t,u] ty #[.slice b l c,ux]).run P w=.ok (.slice b l c) w
 room:m≠0-> ∀blk sLen sCap et cur,w.heap[blk]?=some (.cells cur et (0,0))->sLen+m<=sCap->sLen*ei.size+ns.length<=cur.size->
  (Builtin.append_ #[t,u] ty #[.slice (some ⟨blk,0,none⟩) sLen sCap,ux]).run P w=.ok (.slice (some ⟨blk,0,none⟩) (sLen+m) sCap) (w.setRow blk (cur.toList.take (sLen*ei.size)++ns++cur.toList.drop (sLen*ei.size+ns.length)).toArray)
 nil:m≠0->m*(ei.bytes+1)<=140737488355328->(Builtin.append_ #[t,u] ty #[.slice none 0 0,ux]).run P w=.ok (.slice (some ⟨w.heap.size,0,none⟩) m (grownCap w m 0 e))
  (w.drew.alloc (.cells (ns.toArray++Builtin.zeroCells (BZ ei).cells (grownCap w m 0 e-m)) e))
 grow:m≠0-> ∀(b:Addr) sLen sCap (olds:List Value),olds.length=sLen*ei.size->(∀j v,olds[j]?=some v->w.cell? (b.add j)=some v)->sCap<sLen+m->(sLen+m)*(ei.bytes+1)<=140737488355328->
  (Builtin.append_ #[t,u] ty #[.slice (some b) sLen sCap,ux]).run P w=.ok (.slice (some ⟨w.heap.size,0,none⟩) (sLen+m) (grownCap w (sLen+m) sCap e))
   (w.drew.alloc (.cells (olds.toArray++ns.toArray++Builtin.zeroCells (BZ ei).cells (grownCap w (sLen+m) sCap e-(sLen+m))) e))
theorem XX (hte:CX P te) {t u ty e:Nat} {ei:TI} (hei:look te e=some ei) {a:Act} {g1:G} {σ1:St} {env1:Env} {lab:Nat} {ux:Value} {news:List (List T)} {ns:List Value} {a0:Option Addr} (ha0: ∀x:Addr,a0=some x->True)
  (hext:Ext w g w g1) (hi1:Inv w g1 σ1) (hlk:look σ1 lab=none) (he1:AK w g1 a env1) (hbytes:news.length*(ei.bytes+1)<=140737488355328)
  (hsrc:SrcOk P w t u ty e ux news.length ns ei) (hall: ∀e∈news,e.length=ei.size) (n1:ns.length=news.flatten.length) (n3: ∀(i:Nat) v y,ns[i]?=some v->news.flatten[i]?=some y->RelT w g.M v y) (hone: ∀(i:Nat) y,news.flatten[i]?=some y->CK y=true):
  ∃v w',(Builtin.append_ #[t,u] ty #[.slice a0 0 0,ux]).run P w=.ok v w'/\ER w g a (.row lab ei.size 0 news.length) env1 ((lab,.grow ei.size news)::σ1) v w':=by
 obtain⟨inf,hinf,hs1,hs2,hs3⟩:=(hte _ _ hei).info'
 have hzr:=DM (w:=w) (g:=g) (hte _ _ hei)
 have hzl:=(hte _ _ hei).len
 have hzs:(BZ ei).cells.size=ei.size:=by rw[<-hzl,<-AU,<-hzr.1];simp
 have hb:=D8 hbytes
 by_cases hn0:news.length=0
 ·have hn:news=[]:=List.eq_nil_of_length_eq_zero hn0
  have hrun:=hsrc.same hn0 a0 0 0 (Nat.le_refl _)
  subst hn
  obtain⟨k1,k2,k3⟩:=PM (sz:=ei.size) hi1 hlk
  exact⟨_,_,hrun,_,hext.trans k1,.rowNil _ _ _ ha0 (by simp[G.with]),k2,he1.mono k3⟩
 ·have hfl:=Dg ei.size news hall
  have hge:=grownCap_ge w news.length 0 e
  have hrun:(Builtin.append_ #[t,u] ty #[.slice a0 0 0,ux]).run P w=.ok (.slice (some ⟨w.heap.size,0,none⟩) news.length (grownCap w news.length 0 e))
    (w.drew.alloc (.cells (ns.toArray++Builtin.zeroCells (BZ ei).cells (grownCap w news.length 0 e-news.length)) e)):=by
   cases a0 with
   |none=>exact hsrc.nil hn0 hbytes
   |some x=>
    have:=hsrc.grow hn0 x 0 0 [] Ac Ac Aa (by simpa using hbytes)
    simpa using this
  refine⟨_,_,hrun,(ER.lift hext ?_)⟩
  refine Nw hi1 hlk he1 (A1u w _) hall ?_ hge ?_ ?_
  ·simp only[Array.size_append,List.size_toArray,size_zeroCells,n1];omega
  ·simp only[Array.size_append,List.size_toArray,size_zeroCells,hzs,n1,hfl,<-Nat.add_mul]
   exact Nat.mul_le_mul_right _ Aa
  ·intro i v y hv hy
   have hlt:=AW hy
   rw[Array.getElem?_append_left (by rw[List.size_toArray,n1];exact hlt)]at hv
   have hv':ns[i]?=some v:=by simpa using hv
   exact⟨hone i y hy,hext.same_world (n3 i v y hv' hy)⟩
theorem Sets.refl {blk:Nat} {vs:Array Value} {e:TypeId} (h:w.heap[blk]?=some (.cells vs e (0,0))):Sets w w blk vs e:=⟨Y,fun _ _=>rfl,h,Y,Y⟩
theorem Acf {α:Type} (sz:Nat) (es:List (List α)) (hall: ∀e∈es,e.length=sz) (k i:Nat) (y:α) (h:(es.take k).flatten[i]?=some y):es.flatten[i]?=some y:=by
 have:=C7 sz es hall 0 k i y (by simpa using h)
 simpa using this
theorem XW (hte:CX P te) (hi:Inv w g σ) {t u ty e:Nat} {ei:TI} (hei:look te e=some ei) {a:Act} {env:Env} (he:AK w g a env) {b len:Nat} {us ux:Value} {es news:List (List T)}
  (hlb:look σ b=some (.grow ei.size es)) (hle:len<=es.length) (hs:Rel w g us (.row b ei.size 0 len)) (hbytes:(len+news.length)*(ei.bytes+1)<=140737488355328)
  {ns:List Value} (hsrc:SrcOk P w t u ty e ux news.length ns ei) (hnall: ∀e∈news,e.length=ei.size) (n1:ns.length=news.flatten.length) (n3: ∀(i:Nat) v y,ns[i]?=some v->news.flatten[i]?=some y->RelT w g.M v y) (hone: ∀(i:Nat) y,news.flatten[i]?=some y->CK y=true):
  ∃v w',(Builtin.append_ #[t,u] ty #[us,ux]).run P w=.ok v w'/\ER w g a (.row b ei.size 0 (len+news.length)) (Fs b env) ((b,.grow ei.size (es.take len++news))::CP b σ) v w':=by
 obtain⟨inf,hinf,hs1,hs2,hs3⟩:=(hte _ _ hei).info'
 have hzr:=DM (w:=w) (g:=g) (hte _ _ hei)
 have hzl:=(hte _ _ hei).len
 have hzs:(BZ ei).cells.size=ei.size:=by rw[<-hzl,<-AU,<-hzr.1];simp
 have hb:=D8 hbytes
 obtain⟨hext,hi1,hk⟩:=Ad2 hi b (fun hb=>by obtain⟨cs,h⟩:=(hi.bx _ hb).2;rw[hlb]at h;cases h)
 have he1:=hk a env he
 have hlk:look (CP b σ) b=none:=by rw[DD];simp
 obtain⟨hall0,hok⟩:=hi.ok b _ hlb
 have hall: ∀e∈es.take len++news,e.length=ei.size:=by
  intro e he
  rcases List.mem_append.1 he with h|h
  ·exact hall0 e (List.mem_of_mem_take h)
  ·exact hnall e h
 have htl:(es.take len++news).length=len+news.length:=by simp;omega
 have htf:(es.take len).flatten.length=len*ei.size:=by
  rw[Dg ei.size _ (fun e he=>hall0 e (List.mem_of_mem_take he)),List.length_take,Nat.min_eq_left hle]
 have hnf:=Dg ei.size news hnall
 cases hs with
 |rowNil _ _ a0 ha0 hβ=>
  rcases hok with⟨_,rfl⟩|⟨_,_,_,h1,_⟩
  ·have:=XX (P:=P) (ty:=ty) hte hei ha0 hext hi1 hlk he1 (by simpa using hbytes) hsrc hnall n1 n3 hone
   simpa using this
  ·rw[hβ]at h1;cases h1
 |row _ _ _ _ blk o cap e0 n0 hβ hsh ho hlc hn0=>
  rcases hok with⟨h1,_⟩|⟨blk',vs,et,h1,h2,h3,h4,h5⟩
  ·rw[hβ]at h1;cases h1
  ·rw[hβ]at h1;cases h1
   have hn0':n0=vs.size:=by simp only[World.shape?,h3,Option.some.injEq,Prod.mk.injEq]at hsh;exact hsh.2.symm
   have hno: ∀c,(g.without b).β c≠some (some blk):=by
    intro c hc
    simp only[G.without]at hc
    split at hc
    ·cases hc
    ·rename_i hne;exact hne (hi.inj _ _ _ hc hβ)
   have hcapsz:cap*ei.size<=vs.size:=by rw[<-hn0'];simpa using hn0
   have hlencap:len*ei.size<=vs.size:=Nat.le_trans (Nat.mul_le_mul_right _ hlc) hcapsz
   have hold: ∀(i:Nat) v y,vs[i]?=some v->(es.take len).flatten[i]?=some y->CK y=true/\RelT w g.M v y:=
    fun i v y hv hy=>h5 i v y hv (Acf ei.size es hall0 len i y hy)
   have samecase:news=[]->(Builtin.append_ #[t,u] ty #[.slice (some ⟨blk,o,none⟩) len cap,ux]).run P w=.ok (.slice (some ⟨blk,o,none⟩) len cap) w->
     ∃v w',(Builtin.append_ #[t,u] ty #[.slice (some ⟨blk,o,none⟩) len cap,ux]).run P w=.ok v w'/\
      ER w g a (.row b ei.size 0 (len+news.length)) (Fs b env) ((b,.grow ei.size (es.take len++news))::CP b σ) v w':=by
    intro hn hrun
    subst hn
    obtain⟨k1,k2,k3⟩:=PI hi1 hlk h2 (hi.sx.bs _ _ hβ) hno h3 Y (Sets.refl h3) (B:=.grow ei.size (es.take len++[])) (fun hr=>⟨hall,.inr ⟨blk,vs,et,by simp[G.with],.inr Y,h3,by simp only[List.append_nil];rw[htf];exact hlencap,fun i v y hv hy=>by
     simp only[List.append_nil]at hy
     exact⟨(hold i v y hv hy).1,Aw (hr _ _ (.t _ _ (hext.same_world (hold i v y hv hy).2)))⟩⟩⟩)
    refine⟨_,_,hrun,_,hext.trans k1,?_,k2,he1.mono k3⟩
    exact .row b ei.size 0 _ blk o cap e0 n0 (by simp[G.with]) hsh ho (by simpa using hlc) hn0
   by_cases hnz:news.length=0
   ·have hn:news=[]:=List.eq_nil_of_length_eq_zero hnz
    exact samecase hn (hsrc.same hnz _ _ _ hlc)
   ·have hnf:=Dg ei.size news hnall
    by_cases hroom:len+news.length<=cap
    ·have ho0:o=0:=by rcases ho with h'|h'<;>omega
     subst ho0
     have hfit:len*ei.size+ns.length<=vs.size:=by
      rw[n1,hnf,<-Nat.add_mul];exact Nat.le_trans (Nat.mul_le_mul_right _ hroom) hcapsz
     have hrun:=hsrc.room hnz blk len cap et vs h3 hroom hfit
     have hsets:=Sets.setRow h3 (vs.toList.take (len*ei.size)++ns++vs.toList.drop (len*ei.size+ns.length)).toArray
     have hvsz:(vs.toList.take (len*ei.size)++ns++vs.toList.drop (len*ei.size+ns.length)).toArray.size=vs.size:=by
      simp only[List.size_toArray,List.length_append,List.length_take,List.length_drop,Array.length_toList];omega
     have hnew: ∀(i:Nat) v y,(vs.toList.take (len*ei.size)++ns++vs.toList.drop (len*ei.size+ns.length)).toArray[i]?=some v->(es.take len++news).flatten[i]?=some y->CK y=true/\RelT w g.M v y:=by
      intro i v y hv hy
      have hv':(vs.toList.take (len*ei.size)++ns++vs.toList.drop (len*ei.size+ns.length))[i]?=some v:=by simpa using hv
      rw[List.flatten_append]at hy
      have hlt:=AW hy
      rw[List.length_append,htf]at hlt
      have htk:(vs.toList.take (len*ei.size)).length=len*ei.size:=by simp;omega
      by_cases c:i<len*ei.size
      ·rw[List.getElem?_append_left Aa]at hy
       rw[List.append_assoc,List.getElem?_append_left Aa,List.getElem?_take,if_pos c]at hv'
       exact hold i v y (by rw[<-Array.getElem?_toList];exact hv') hy
      ·rw[List.getElem?_append_right Aa,htf]at hy
       rw[List.append_assoc,List.getElem?_append_right Aa,htk,List.getElem?_append_left Aa]at hv'
       exact⟨hone _ y hy,n3 _ v y hv' hy⟩
     obtain⟨k1,k2,k3⟩:=PI hi1 hlk h2 (hi.sx.bs _ _ hβ) hno h3 hvsz hsets (B:=.grow ei.size (es.take len++news)) (fun hr=>⟨hall,.inr ⟨blk,_,et,by simp[G.with],.inr Y,hsets.new,by
      rw[hvsz,List.flatten_append,List.length_append,htf,hnf,<-Nat.add_mul];exact Nat.le_trans (Nat.mul_le_mul_right _ hroom) hcapsz,fun i v y hv hy=>
      ⟨(hnew i v y hv hy).1,Aw (hr _ _ (.t _ _ (hext.same_world (hnew i v y hv hy).2)))⟩⟩⟩)
     refine⟨_,_,hrun,_,hext.trans k1,?_,k2,he1.mono k3⟩
     exact .row b ei.size 0 _ blk 0 cap e0 n0 (by simp[G.with]) (k1.shape _ _ hsh) (.inl Ac) hroom hn0
    ·have holds: ∀(j:Nat) v,(vs.toList.take (len*ei.size))[j]?=some v->w.cell? ((⟨blk,o,none⟩:Addr).add j)=some v:=by
      intro j v hv
      rw[List.getElem?_take]at hv
      split at hv
      ·rename_i hj
       have ho0:o=0:=by
        rcases ho with h'|h'
        ·simpa using h'
        ·have:len=0:=by omega
         subst this;simp at hj
       rw[BO,EH h3,<-Array.getElem?_toList,ho0,Nat.zero_add];exact hv
      ·simp at hv
     have htk:(vs.toList.take (len*ei.size)).length=len*ei.size:=by simp;omega
     have hrun:=hsrc.grow hnz ⟨blk,o,none⟩ len cap (vs.toList.take (len*ei.size)) htk holds Aa hbytes
     refine⟨_,_,hrun,(ER.lift hext ?_)⟩
     have hge:=grownCap_ge w (len+news.length) cap e
     have hpost:=Nw (es':=es.take len++news) (sz:=ei.size) (cap:=grownCap w (len+news.length) cap e) hi1 hlk he1 (A1u w (.cells ((vs.toList.take (len*ei.size)).toArray++ns.toArray++Builtin.zeroCells (BZ ei).cells (grownCap w (len+news.length) cap e-(len+news.length))) e)) hall
      (by rw[List.flatten_append,List.length_append,htf];simp only[Array.size_append,List.size_toArray,size_zeroCells,n1,htk];omega) (by rw[htl];exact hge)
      (by
       simp only[Array.size_append,List.size_toArray,size_zeroCells,hzs,n1,hnf,htk,<-Nat.add_mul]
       exact Nat.mul_le_mul_right _ Aa)
      (by
       intro i v y hv hy
       rw[List.flatten_append]at hy
       have hlt:=AW hy
       rw[List.length_append,htf]at hlt
       rw[Array.getElem?_append_left (by simp only[Array.size_append,List.size_toArray,htk,n1];exact hlt)]at hv
       by_cases c:i<len*ei.size
       ·rw[List.getElem?_append_left Aa]at hy
        rw[Array.getElem?_append_left (by rw[List.size_toArray,htk];exact c)]at hv
        have hv':(vs.toList.take (len*ei.size))[i]?=some v:=by simpa using hv
        rw[List.getElem?_take,if_pos c]at hv'
        have:=hold i v y (by rw[<-Array.getElem?_toList];exact hv') hy
        exact⟨this.1,hext.same_world this.2⟩
       ·rw[List.getElem?_append_right Aa,htf]at hy
        rw[Array.getElem?_append_right (by rw[List.size_toArray,htk];omega),List.size_toArray,htk]at hv
        have hv':ns[i-len*ei.size]?=some v:=by simpa using hv
        exact⟨hone _ y hy,hext.same_world (n3 _ v y hv' hy)⟩)
     rw[htl]at hpost
     exact hpost
theorem NQ (hte:CX P te) {t ty e:Nat} (hu:P.underlying t=some (.slice e)) {ei:TI} (hei:look te e=some ei) {ux:Value} {news:List (List T)}
  (hnr:((ux=.slice none 0 0\/ ∃a,ux=.slice (some a) 0 0)/\news=[])\/ ∃b off cap,ux=.slice (some ⟨b,off,none⟩) news.length cap/\(∀e∈news,e.length=ei.size)/\
   ∀(i:Nat) y,news.flatten[i]?=some y->CK y=true/\ ∃u,w.cell? ⟨b,off+i,none⟩=some u/\RelT w g.M u y):
  ∃ns,SrcOk P w t t ty e ux news.length ns ei/\(∀e∈news,e.length=ei.size)/\ns.length=news.flatten.length/\(∀(i:Nat) v y,ns[i]?=some v->news.flatten[i]?=some y->RelT w g.M v y)/\(∀(i:Nat) y,news.flatten[i]?=some y->CK y=true):=by
 obtain⟨inf,hinf,hs1,hs2,hs3⟩:=(hte _ _ hei).info'
 rcases hnr with⟨rfl|⟨a,rfl⟩,rfl⟩|⟨bb,off,capx,rfl,hnall,hc⟩
 rotate_left
 ·refine⟨[],⟨fun _ b l c hl=>XV t ty e inf hinf hu c l 0 b a hl,fun h=>absurd Y h,fun h=>absurd Y h,fun h=>absurd Y h⟩,by simp,Y,by simp,by simp⟩
 rotate_left
 ·refine⟨[],⟨fun _ b l c hl=>Aj5 t ty e inf hinf hu c l b hl,fun h=>absurd Y h,fun h=>absurd Y h,fun h=>absurd Y h⟩,by simp,Y,by simp,by simp⟩
 ·obtain⟨ns,n1,n2,n3⟩:=Il (w:=w) (ts:=news.flatten) (b:=bb) (off:=off) (M:=g.M) (fun i y hy=>(hc i y hy).2)
  have hnf:=Dg ei.size news hnall
  have hones: ∀u∈ns,u.oneCell'=true:=by
   intro u hu'
   obtain⟨i,hi',rfl⟩:=List.getElem_of_mem hu'
   have hlt:i<news.flatten.length:=by rw[<-n1];exact hi'
   exact(MN (n3 i _ _ (List.getElem?_eq_getElem hi') (List.getElem?_eq_getElem hlt)) (hc i _ (List.getElem?_eq_getElem hlt)).1).1
  refine⟨ns,⟨fun h0 b l c hl=>?_,fun _ blk sLen sCap et cur hg hroom hfit=>?_,fun h0 hby=>?_,fun h0 b sLen sCap olds hlo holds hlt hby=>?_⟩,hnall,n1,n3,fun i y hy=>(hc i y hy).1⟩
  ·rw[h0];exact XV t ty e inf hinf hu c l capx b _ hl
  ·have:=Aj4 (P:=P) t ty e inf hu hinf blk sLen sCap et cur hg ⟨bb,off,none⟩ news.length capx ns (by rw[n1,hnf,hs1]) (fun j v hv=>by rw[BO];exact n2 j v hv) hones hroom (by rw[hs1];exact hfit)
   rw[hs1]at this;exact this
  ·have hb:=D8 hby
   exact run_append_nil (P:=P) w t ty e inf (BZ ei) hu hinf hs3 ⟨bb,off,none⟩ news.length capx ns (by rw[n1,hnf,hs1]) (fun j v hv=>by rw[BO];exact n2 j v hv) Aa Aa (by rw[hs2];omega)
  ·have hb:=D8 hby
   exact run_append_grow (P:=P) w t ty e inf (BZ ei) hu hinf hs3 b sLen sCap olds (by rw[hlo,hs1]) holds ⟨bb,off,none⟩ news.length capx ns (by rw[n1,hnf,hs1])
    (fun j v hv=>by rw[BO];exact n2 j v hv) Aa Aa (growslice_fits Aa (by rw[hs2];omega))
theorem Ab2 (hte:CX P te) {t ty e:Nat} (hu:P.underlying t=some (.slice e)) {ei:TI} (hei:look te e=some ei) {a:Act} {g1:G} {σ1:St} {env1:Env} {lab:Nat} {ux:Value} {news:List (List T)} {a0:Option Addr} (ha0: ∀x:Addr,a0=some x->True)
  (hext:Ext w g w g1) (hi1:Inv w g1 σ1) (hlk:look σ1 lab=none) (he1:AK w g1 a env1) (hbytes:news.length*(ei.bytes+1)<=140737488355328)
  (hnr:((ux=.slice none 0 0\/ ∃a,ux=.slice (some a) 0 0)/\news=[])\/ ∃b off cap,ux=.slice (some ⟨b,off,none⟩) news.length cap/\(∀e∈news,e.length=ei.size)/\
   ∀(i:Nat) y,news.flatten[i]?=some y->CK y=true/\ ∃u,w.cell? ⟨b,off+i,none⟩=some u/\RelT w g.M u y):
  ∃v w',(Builtin.append_ #[t,t] ty #[.slice a0 0 0,ux]).run P w=.ok v w'/\ER w g a (.row lab ei.size 0 news.length) env1 ((lab,.grow ei.size news)::σ1) v w':=by
 obtain⟨ns,h1,h2,h3,h4,h5⟩:=NQ (ty:=ty) hte hu hei hnr
 exact XX hte hei ha0 hext hi1 hlk he1 hbytes h1 h2 h3 h4 h5
theorem Anj (hte:CX P te) (hi:Inv w g σ) {t ty e:Nat} (hu:P.underlying t=some (.slice e)) {ei:TI} (hei:look te e=some ei) {a:Act} {env:Env} (he:AK w g a env) {b len:Nat} {us ux:Value} {es news:List (List T)}
  (hlb:look σ b=some (.grow ei.size es)) (hle:len<=es.length) (hs:Rel w g us (.row b ei.size 0 len)) (hbytes:(len+news.length)*(ei.bytes+1)<=140737488355328)
  (hnr:((ux=.slice none 0 0\/ ∃a,ux=.slice (some a) 0 0)/\news=[])\/ ∃b off cap,ux=.slice (some ⟨b,off,none⟩) news.length cap/\(∀e∈news,e.length=ei.size)/\
   ∀(i:Nat) y,news.flatten[i]?=some y->CK y=true/\ ∃u,w.cell? ⟨b,off+i,none⟩=some u/\RelT w g.M u y):
  ∃v w',(Builtin.append_ #[t,t] ty #[us,ux]).run P w=.ok v w'/\ER w g a (.row b ei.size 0 (len+news.length)) (Fs b env) ((b,.grow ei.size (es.take len++news))::CP b σ) v w':=by
 obtain⟨ns,h1,h2,h3,h4,h5⟩:=NQ (ty:=ty) hte hu hei hnr
 exact XW hte hi hei he hlb hle hs hbytes h1 h2 h3 h4 h5
theorem Ur (hte:CX P te) (hi:Inv w g σ) {t u ty e:Nat} {ei:TI} (hei:look te e=some ei) {a:Act} {env:Env} (he:AK w g a env) {us ux:Value} {es news:List (List T)}
  (hs:Rel w g us (.t (.slice .full ei.size es))) (hbytes:(es.length+news.length)*(ei.bytes+1)<=140737488355328)
  {ns:List Value} (hsrc:SrcOk P w t u ty e ux news.length ns ei) (hnall: ∀e∈news,e.length=ei.size) (n1:ns.length=news.flatten.length) (n3: ∀(i:Nat) v y,ns[i]?=some v->news.flatten[i]?=some y->RelT w g.M v y) (hone': ∀(i:Nat) y,news.flatten[i]?=some y->CK y=true):
  ∃v w',(Builtin.append_ #[t,u] ty #[us,ux]).run P w=.ok v w'/\ER w g a (.t (.slice .any ei.size (es++news))) env σ v w':=by
 obtain⟨inf,hinf,hs1,hs2,hs3⟩:=(hte _ _ hei).info'
 have hzr:=DM (w:=w) (g:=g) (hte _ _ hei)
 have hzl:=(hte _ _ hei).len
 have hzs:(BZ ei).cells.size=ei.size:=by rw[<-hzl,<-AU,<-hzr.1];simp
 have hb:=D8 hbytes
 have weak: ∀{v:Value},RelT w g.M v (.slice .full ei.size es)->RelT w g.M v (.slice .any ei.size es):=by
  intro v h
  cases h with
  |sliceNil=>exact .sliceNil _ _
  |sliceZ a _ _ _=>exact .sliceZ a _ _ Ac
  |slice b off len cap _ _ _ vs hl hc hf hm hp hsz hone hcell hrel=>exact .slice b off len cap _ _ _ vs hl hc Ac Ac Ac hsz hone hcell hrel
 have same:news=[]->(Builtin.append_ #[t,u] ty #[us,ux]).run P w=.ok us w-> ∃v w',(Builtin.append_ #[t,u] ty #[us,ux]).run P w=.ok v w'/\ER w g a (.t (.slice .any ei.size (es++news))) env σ v w':=by
  intro hn hrun
  subst hn
  exact⟨us,w,hrun,g,A1t _ _,by rw[List.append_nil];exact .t _ _ (weak (Aw hs)),hi,he⟩
 obtain⟨a0,len,hus,hlen,hold,hall⟩: ∃(a0:Option Addr) (len:Nat),us=.slice a0 len len/\len=es.length/\(∀(i:Nat) y,es.flatten[i]?=some y-> ∃b off,a0=some ⟨b,off,none⟩/\CK y=true/\ ∃u,w.cell? ⟨b,off+i,none⟩=some u/\RelT w g.M u y)/\(∀e∈es,e.length=ei.size):=by
  rcases Cq (Aw hs)with⟨h1,h2⟩|⟨b,off,cap,h1,_,h2,_,h3,h4⟩|⟨a,h1,h2,_⟩
  ·subst h2;exact⟨none,0,h1,Y,by simp,by simp⟩
  rotate_left
  ·subst h2;exact⟨some a,0,h1,Y,by simp,by simp⟩
  ·have:=h2 Y
   subst this
   exact⟨some ⟨b,off,none⟩,_,h1,Y,fun i y hy=>⟨b,off,Y,(h4 i y hy).2⟩,h3⟩
 subst hus
 by_cases hnz:news.length=0
 ·have hn:news=[]:=List.eq_nil_of_length_eq_zero hnz
  exact same hn (hsrc.same hnz a0 len len (Nat.le_refl _))
 ·have hnf:=Dg ei.size news hnall
  have hef:=Dg ei.size es hall
  obtain⟨os,o1,o2,o3⟩: ∃os:List Value,os.length=es.flatten.length/\(∀(i:Nat) v,os[i]?=some v-> ∃b off,a0=some ⟨b,off,none⟩/\w.cell? ⟨b,off+i,none⟩=some v)/\ ∀(i:Nat) v x,os[i]?=some v->es.flatten[i]?=some x->RelT w g.M v x:=by
   cases a0 with
   |none=>
    have:es.flatten=[]:=List.eq_nil_iff_forall_not_mem.2 fun y hy=>by
     obtain⟨i,hi',rfl⟩:=List.getElem_of_mem hy
     obtain⟨_,_,h,_⟩:=hold i _ (List.getElem?_eq_getElem hi')
     cases h
    exact⟨[],by rw[this];rfl,by simp,by simp⟩
   |some x=>
    obtain⟨b,o,sp⟩:=x
    by_cases hne:es.flatten=[]
    ·exact⟨[],by rw[hne];rfl,by simp,by simp⟩
    ·obtain⟨y0,r0,hy0⟩:=List.exists_cons_of_ne_nil hne
     obtain⟨b',o',h1,_⟩:=hold 0 y0 (by rw[hy0];rfl)
     cases h1
     obtain⟨us,u1,u2,u3⟩:=Il (w:=w) (ts:=es.flatten) (b:=b) (off:=o) (M:=g.M) (fun i y hy=>by
      obtain⟨b2,o2,h2,h3⟩:=hold i y hy
      cases h2;exact h3.2)
     exact⟨us,u1,fun i v hv=>⟨b,o,Y,u2 i v hv⟩,u3⟩
  have hge:=grownCap_ge w (len+news.length) len e
  have hrun:(Builtin.append_ #[t,u] ty #[.slice a0 len len,ux]).run P w=.ok (.slice (some ⟨w.heap.size,0,none⟩) (len+news.length) (grownCap w (len+news.length) len e))
    (w.drew.alloc (.cells (os.toArray++ns.toArray++Builtin.zeroCells (BZ ei).cells (grownCap w (len+news.length) len e-(len+news.length))) e)):=by
   cases a0 with
   |none=>
    have hl0:len=0:=by
     rcases Cq (Aw hs)with⟨h1,_⟩|⟨_,_,_,h1,_⟩|⟨_,h1,_⟩
     ·cases h1;rfl
     ·cases h1
     ·cases h1
    have hos:os=[]:=List.eq_nil_of_length_eq_zero (by rw[o1,hef,<-hlen,hl0];simp)
    subst hl0;subst hos
    have:=hsrc.nil hnz (by have:=hbytes;simp[<-hlen]at this;exact this)
    simpa using this
   |some x=>
    exact hsrc.grow hnz x len len os (by rw[o1,hef,<-hlen]) (fun j v hv=>by
     obtain⟨b,o,h1,h2⟩:=o2 j v hv
     cases h1;rw[BO];exact h2) Aa (by rw[hlen];exact hbytes)
  have hm:=A1u w (.cells (os.toArray++ns.toArray++Builtin.zeroCells (BZ ei).cells (grownCap w (len+news.length) len e-(len+news.length))) e)
  obtain⟨k1,k2,k3⟩:=Ez hi hm
  refine⟨_,_,hrun,g,k1,?_,k2,he.mono k3⟩
  refine .t _ _ (DN (by rw[List.length_append,<-hlen]) hge Ac Ac (fun e he=>by
   rcases List.mem_append.1 he with h|h
   ·exact hall e h
   ·exact hnall e h) ?_)
  intro i y hy
  rw[List.flatten_append]at hy
  have hlt:=AW hy
  rw[List.length_append]at hlt
  refine⟨Aia hi _,?_⟩
  by_cases c:i<es.flatten.length
  ·rw[List.getElem?_append_left c]at hy
   obtain⟨v,hv⟩: ∃v,os[i]?=some v:=⟨os[i]'(by rw[o1];exact c),List.getElem?_eq_getElem _⟩
   obtain⟨_,_,_,hone,_⟩:=hold i y hy
   refine⟨hone,v,?_,Aw (k3 _ _ (.t _ _ (o3 i v y hv hy)))⟩
   rw[Nat.zero_add,EH hm.new,Array.getElem?_append_left (by simp only[Array.size_append,List.size_toArray,o1,n1];omega),Array.getElem?_append_left (by rw[List.size_toArray,o1];exact c)]
   simpa using hv
  ·rw[List.getElem?_append_right Aa]at hy
   have hlt2:=AW hy
   obtain⟨v,hv⟩: ∃v,ns[i-es.flatten.length]?=some v:=⟨ns[i-es.flatten.length]'(by rw[n1];exact hlt2),List.getElem?_eq_getElem _⟩
   refine⟨hone' _ y hy,v,?_,Aw (k3 _ _ (.t _ _ (n3 _ v y hv hy)))⟩
   rw[Nat.zero_add,EH hm.new,Array.getElem?_append_left (by simp only[Array.size_append,List.size_toArray,o1,n1];omega),Array.getElem?_append_right (by rw[List.size_toArray,o1];omega),List.size_toArray,o1]
   simpa using hv
theorem Aj6 (hte:CX P te) (hi:Inv w g σ) {t ty e:Nat} (hu:P.underlying t=some (.slice e)) {ei:TI} (hei:look te e=some ei) {a:Act} {env:Env} (he:AK w g a env) {us ux:Value} {es news:List (List T)}
  (hs:Rel w g us (.t (.slice .full ei.size es))) (hbytes:(es.length+news.length)*(ei.bytes+1)<=140737488355328)
  (hnr:((ux=.slice none 0 0\/ ∃a,ux=.slice (some a) 0 0)/\news=[])\/ ∃b off cap,ux=.slice (some ⟨b,off,none⟩) news.length cap/\(∀e∈news,e.length=ei.size)/\
   ∀(i:Nat) y,news.flatten[i]?=some y->CK y=true/\ ∃u,w.cell? ⟨b,off+i,none⟩=some u/\RelT w g.M u y):
  ∃v w',(Builtin.append_ #[t,t] ty #[us,ux]).run P w=.ok v w'/\ER w g a (.t (.slice .any ei.size (es++news))) env σ v w':=by
 obtain⟨ns,h1,h2,h3,h4,h5⟩:=NQ (ty:=ty) hte hu hei hnr
 exact Ur hte hi hei he hs hbytes h1 h2 h3 h4 h5
theorem V9 (hte:CX P te) (hi:Inv w g σ) {a:Act} {env env':Env} {σ':St} (he:AK w g a env) {t ty dst:Nat} {s x y:AV} {us ux:Value} (hs:Rel w g us s) (hx:Rel w g ux x)
  (h:GI te t dst s x env σ=some (y,env',σ')): ∃v w',(Builtin.append_ #[t,t] ty #[us,ux]).run P w=.ok v w'/\ER w g a y env' σ' v w':=by
 unfold GI at h
 split at h
 ·rename_i i1 i2 i3 e hlt
  obtain⟨d,hd,hdk⟩:=(hte _ _ hlt).und'
  have hu:P.underlying t=some (.slice e):=by cases d<;>simp[Dj]at hdk;subst hdk;exact hd
  split at h
  ·rename_i ei hei
   split at h
   ·rename_i news hnews
    have hnr:=Ahm hi hx hnews
    split at h
    ·rename_i sz0 es0
     have hus:us=.slice none 0 0:=by
      rcases Cq (Aw hs)with⟨h1,_⟩|⟨_,_,_,_,_,_,h1,_⟩|⟨_,_,_,h1⟩
      ·exact h1
      ·exact absurd Y h1
      ·exact absurd Y h1
     subst hus
     split at h
     ·rename_i hbytes
      obtain⟨env1,σ1,g1,hk,hlk,hext,hi1,he1⟩:=Gj h hi he
      simp at hk
      obtain⟨rfl,rfl,rfl⟩:=hk
      exact Ab2 hte hu hei Ac hext hi1 hlk he1 hbytes hnr
     ·simp at h
    ·rename_i sz' es
     split at h
     ·split at h
      ·obtain⟨a0,ha0,hus⟩: ∃a0:Option Addr,(∀x:Addr,a0=some x->True)/\us=.slice a0 0 0:=by
        rcases Cq (Aw hs)with⟨h1,_⟩|⟨b,off,cap,h1,_,h2,_⟩|⟨a,h1,_⟩
        ·exact⟨none,by simp,h1⟩
        rotate_left
        ·exact⟨some a,by simp,h1⟩
        ·have:=h2 Y
         simp at this;subst this
         exact⟨some ⟨b,off,none⟩,by simp,h1⟩
       subst hus
       split at h
       ·rename_i hbytes
        obtain⟨env1,σ1,g1,hk,hlk,hext,hi1,he1⟩:=Gj h hi he
        simp at hk
        obtain⟨rfl,rfl,rfl⟩:=hk
        exact Ab2 hte hu hei ha0 hext hi1 hlk he1 hbytes hnr
       ·simp at h
      ·simp at h
     ·split at h
      ·rename_i hsz
       split at h
       ·rename_i hbytes
        simp at h
        obtain⟨rfl,rfl,rfl⟩:=h
        rw[hsz]at hs
        exact Aj6 hte hi hu hei he hs hbytes hnr
       ·simp at h
      ·simp at h
    ·rename_i b sz lo len
     split at h
     ·rename_i sz' es hlb
      split at h
      ·rename_i h1
       split at h
       ·rename_i h2
        split at h
        ·rename_i hle
         split at h
         ·rename_i hbytes
          simp at h
          obtain⟨rfl,rfl,rfl⟩:=h
          subst h1;subst h2
          exact Anj hte hi hu hei he hlb hle hs hbytes hnr
         ·simp at h
        ·simp at h
       ·simp at h
      ·simp at h
     ·simp at h
    ·simp at h
   ·simp at h
  ·simp at h
 ·simp at h
end
end Go.Am
namespace Go.Am
section
variable {w:World} {g:G} {σ:St} {D:Nat} {o0:Obj}
theorem Zb (hD:w.heap[D]?=some o0) (hc:o0.isCells=false) (o:Obj) {v:Value} {x:AV} (h:Rel w g v x):Rel (w.putObj D o) g v x:=by
 refine h.mono (fun b off u h1 h2=>⟨h1,?_⟩) (fun _ _ h=>h) (fun b p hp=>?_)
 ·have hne:b≠D:=fun e=>by subst e;cases o0<;>simp[World.cell?,hD,Obj.isCells]at h2 hc
  rw[BX (World.putObj_heap_other hne)];exact h2
 ·have hne:b≠D:=fun e=>by subst e;cases o0<;>simp[World.shape?,hD,Obj.isCells]at hp hc
  simp only[World.shape?,World.putObj_heap_other hne]at hp⊢;exact hp
theorem Rv (hD:w.heap[D]?=some o0) (hc:o0.isCells=false) (o:Obj) {w0:World} {g0:G} (hx:Ext w0 g0 w g) (hge:g0.own D\/w0.heap.size<=D) (hc':o.isCells=false:=by rfl):Ext w0 g0 (w.putObj D o) g:=by
 refine⟨by rw[World.putObj_size];exact hx.size,fun blk hb ho=>?_,hx.own,hx.oth,fun b p hp=>?_,hx.bx,hx.lo,fun blk e hb ho he=>?_⟩
 ·rw[World.putObj_heap_other (fun e=>by subst e;rcases hge with h|h;exact ho h;omega)];exact hx.keep blk hb ho
 ·have hq:=hx.shape b p hp
  have hne:b≠D:=fun e=>by subst e;cases o0<;>simp[World.shape?,hD,Obj.isCells]at hq hc
  simp only[World.shape?,World.putObj_heap_other hne]at hq⊢;exact hq
 ·obtain⟨a1,a2⟩:=hx.sp blk e hb ho he
  refine⟨fun i hlt=>?_,a2⟩
  rw[<-a1 i hlt]
  by_cases hne:blk=D
  ·subst hne
   have h1:w.cell? ⟨blk,i,none⟩=none:=by cases o0<;>simp[World.cell?,hD,Obj.isCells]at hc⊢
   have h2:(w.putObj blk o).heap[blk]?=some o:=World.putObj_heap_same (Cw hD)
   have h3:(w.putObj blk o).cell? ⟨blk,i,none⟩=none:=by cases o<;>simp[World.cell?,h2,Obj.isCells]at hc'⊢
   rw[h1,h3]
  ·exact BX (World.putObj_heap_other hne) _ _
end
section
variable {P:Program} {σ:St}
theorem RT {w:World} {M:Nat->Nat->Prop} {z kk:IntKind} {m:Int}: ∀(es:List MapEntry) (ks:List T) (j:Nat),es.length=ks.length->(∀(i:Nat) e x,es[i]?=some e->ks[i]?=some x->RelT w M e.key x)->
  ∀r,IB kk m ks j=some r->(r=none/\Instr.findNow (.int z) (.int kk m) es j=some none)\/ ∃i e,r=some (j+i)/\es[i]?=some e/\Instr.findNow (.int z) (.int kk m) es j=some (some (j+i,e.val))
 |[],[],j,_,_,r,h=>by simp[IB]at h;subst h;exact .inl ⟨Y,Y⟩
 |e::es,x::ks,j,hl,hr,r,h=>by
  have h0:=hr 0 e x Y Y
  cases x with
  |int k' b=>
   cases hk:e.key with
   |int k2 b2=>
    rw[hk]at h0
    cases h0
    simp only[IB]at h
    split at h
    ·rename_i hkk;subst hkk
     split at h
     ·rename_i hb;subst hb
      simp at h;subst h
      exact .inr ⟨0,e,Y,Y,by simp[Instr.findNow,hk,Instr.sameNow]⟩
     ·rename_i hb
      rcases RT es ks (j+1) (by simpa using hl) (fun i e x he hx=>hr (i+1) e x (by simpa using he) (by simpa using hx)) r h with⟨h1,h2⟩|⟨i,e',h1,h2,h3⟩
      ·refine .inl ⟨h1,?_⟩
       simp only[Instr.findNow,hk,Instr.sameNow,if_true]
       have:(m==b)=false:=by simpa using hb
       rw[this];exact h2
      ·refine .inr ⟨i+1,e',by rw[h1];congr 1;omega,by simpa using h2,?_⟩
       simp only[Instr.findNow,hk,Instr.sameNow,if_true]
       have:(m==b)=false:=by simpa using hb
       rw[this];simp only;rw[h3];congr 3;omega
    ·simp at h
   |_=>rw[hk]at h0;cases h0
  |_=>simp[IB]at h
 |[],_::_,_,hl,_,_,_=>by simp at hl
 |_::_,[],_,hl,_,_,_=>by simp at hl
theorem SG {w:World} {b:Bool} {kt:Nat} {z:IntKind} {v:Value} (hk:P.underlying kt=some (.int z)) (m:Nat):(Instr.checkKey b (m+1) kt v).run P w=.ok () w:=by
 rw[Instr.checkKey]
 simp only[Sem.run_bind,Go.run_underlying hk,Result.andThen_ok]
 cases v<;>rfl
theorem Dk {w:World} {b:Bool} {kt:Nat} {z:IntKind} {v:Value} (hk:P.underlying kt=some (.int z)):(Instr.checkKey b 10000 kt v).run P w=.ok () w:=SG hk 9999
theorem EX {w:World} {kt:Nat} {z:IntKind} {v:Value} {es:List MapEntry} {r:Option (Nat×Value)} (hk:P.underlying kt=some (.int z)) (h:Instr.findNow (.int z) v es 0=some r):(Instr.findKey kt v es).run P w=.ok r w:=by
 simp only[Instr.findKey,Sem.run_bind,Go.run_underlying hk,Result.andThen_ok,h,Sem.run_pure]
theorem PT {w:World} {g:G} (hi:Inv w g σ) {b:Nat} {ks ks':List T} {xs xs':List AV} (hb:look σ b=some (.mp ks xs)): ∃blk es clk,g.β b=some (some blk)/\w.heap[blk]?=some (.map es clk)/\es.size=ks.length/\es.size=xs.length/\
  (∀(i:Nat) e x,es[i]?=some e->ks[i]?=some x->RelT w g.M e.key x)/\(∀(i:Nat) e x,es[i]?=some e->xs[i]?=some x->Rel w g e.val x)/\
  ∀es' clk',es'.size=ks'.length->es'.size=xs'.length->(∀(i:Nat) e x,es'[i]?=some e->ks'[i]?=some x->RelT w g.M e.key x)->(∀(i:Nat) e x,es'[i]?=some e->xs'[i]?=some x->Rel w g e.val x)->
   Ext w g (w.putObj blk (.map es' clk')) g/\Inv (w.putObj blk (.map es' clk')) g (upd σ b (.mp ks' xs'))/\ ∀v x,Rel w g v x->Rel (w.putObj blk (.map es' clk')) g v x:=by
 obtain⟨l,es,clk,h1,h2,h3,h4,h5,h6,h7⟩:=hi.ok b _ hb
 refine⟨l,es,clk,h1,h3,h4,h5,h6,h7,fun es' clk' q1 q2 q3 q4=>?_⟩
 have hr: ∀v x,Rel w g v x->Rel (w.putObj l (.map es' clk')) g v x:=fun v x h=>Zb h3 Y _ h
 have hspn: ∀blk e,g.sp blk=some e->blk≠l:=fun blk e he e'=>by subst e';rw[hi.sx.bs _ _ h1]at he;cases he
 have hx:Ext w g (w.putObj l (.map es' clk')) g:=by
  refine Rv h3 Y _ (A1t w g) (.inl h2) (by rfl)
 refine⟨hx,⟨fun c C hC=>?_,fun c=>?_,hi.inj,fun blk h=>by rw[World.putObj_size];exact hi.lt blk h,fun c hc=>⟨(hi.bx c hc).1,?_⟩,hi.dis,fun p hp=>⟨(hi.im p hp).1,?_⟩,by rw[World.putObj_size];exact hi.lo,hi.sx.mono (by rw[World.putObj_size];exact Nat.le_refl _) Y (fun _ _ _ h=>h) (fun blk e he _ _=>World.putObj_heap_other (hspn blk e he)) (fun c blk h=>.inl ⟨c,h⟩) (fun d L hL=>?_)⟩,hr⟩
 ·rw[B3]at hC
  split at hC
  ·rename_i e;subst e;cases hC
   exact⟨l,es',clk',h1,h2,World.putObj_heap_same (Cw h3),q1,q2,fun i e x he hx=>Aw (hr _ _ (.t _ _ (q3 i e x he hx))),fun i e x he hx=>hr _ _ (q4 i e x he hx)⟩
  ·rename_i hne
   refine(hi.ok c C hC).mono Y (fun _ _ h=>h) (fun blk hb'=>World.putObj_heap_other fun e=>?_) hr
   subst e;exact hne (hi.inj _ _ _ h1 hb')
 ·rw[B3]
  by_cases e:b=c
  ·subst e;simp[h1]
  ·simp only[if_neg e];exact hi.dom c
 ·rw[B3]
  by_cases e:b=c
  ·subst e;obtain⟨_,cs,h⟩:=hi.bx b hc;rw[hb]at h;cases h
  ·simp only[if_neg e];exact(hi.bx c hc).2
 ·have hq:=(hi.im p hp).2
  have hne:p.1≠l:=fun e=>by rw[e]at hq;simp[World.cell?,h3]at hq
  rw[BX (World.putObj_heap_other hne)];exact hq
 ·rw[B3]at hL
  split at hL
  ·cases hL
  ·exact hL
theorem UG (m:Nat) (k:IntKind) (a:Int):Instr.sameBits m (.int k a) (.int k a)=true:=by
 cases m<;>simp[Instr.sameBits]
theorem N4 {w:World} {es:List MapEntry} {α:Type} {ks:List α} {R:MapEntry->α->Prop} {i:Nat} (hl:es.length=ks.length) (h: ∀(j:Nat) e x,es[j]?=some e->ks[j]?=some x->R e x): ∀(j:Nat) e x,(es.eraseIdx i)[j]?=some e->(ks.eraseIdx i)[j]?=some x->R e x:=by
 intro j e x he hx
 rw[List.getElem?_eraseIdx]at he hx
 split at he
 ·rename_i hlt;rw[if_pos hlt]at hx;exact h j e x he hx
 ·rename_i hlt;rw[if_neg hlt]at hx;exact h (j+1) e x he hx
theorem Aaj {t:Nat} {ti:TI} (h:TeOk1 P t ti) {k e:Nat} (hk:ti.kind=.map k e):P.underlying t=some (.map k e):=by
 obtain⟨d,hd,h1⟩:=h.und'
 rw[hk]at h1
 cases d<;>simp[Dj]at h1
 obtain⟨rfl,rfl⟩:=h1;exact hd
theorem Af6 {t:Nat} {ti:TI} (h:TeOk1 P t ti) {k:IntKind} (hk:ti.kind=.int k):P.underlying t=some (.int k):=by
 obtain⟨d,hd,h1⟩:=h.und'
 rw[hk]at h1
 cases d<;>simp[Dj]at h1
 subst h1;exact hd
theorem Ol {te:TE} (hte:CX P te) {t et:Nat} (h:WH te t=some et): ∃kt z,P.underlying t=some (.map kt et)/\P.underlying kt=some (.int z):=by
 unfold WH at h
 split at h
 ·rename_i kt et' hl
  split at h
  ·rename_i z hk
   simp at h;subst h
   exact⟨kt,z,Aaj (hte _ _ hl) Y,Af6 (hte _ _ hk) Y⟩
  ·simp at h
 ·simp at h
theorem I0 {w:World} {g:G} {v:Value} {b blk:Nat} (h:Rel w g v (.mref b)) (h1:g.β b=some (some blk)):v=.map (some blk):=by
 cases h with
 |mref _ blk' hβ=>rw[h1]at hβ;cases hβ;rfl
theorem Ab5 {w:World} {g:G} {t:Nat} {ti:TI} (h:TeOk1 P t ti):Rel w g (BZ ti) (Aab ti):=by
 have hzr:=DM (w:=w) (g:=g) h
 have hl:=h.len
 have h1:=h.one
 unfold BZ at hzr⊢
 unfold Aab
 cases ha:ti.kind.agg with
 |true=>
  rw[ha]at hzr
  simp only[cond_true,Value.cells]at hzr⊢
  exact .agg (ti.zero.map Ys) _ (by simp[AU]) (fun i v x hv hx=>hzr.2 i v x (by simpa using hv) hx)
 |false=>
  have hz:=h1 ha
  rw[<-hl]at hz
  obtain⟨x,hx⟩:=List.length_eq_one_iff.1 hz
  have hc:=h.const
  rw[hx]at hc
  simp only[List.all_cons,List.all_nil,Bool.and_true]at hc
  simp only[hx,cond_false,List.headD_cons]
  exact .t _ _ (LV hc)
theorem GS {w:World} {g:G} {es:Array MapEntry} {ks:List T} {kk z:IntKind} {m:Int} {r:Option Nat} (h4:es.size=ks.length) (h6: ∀(i:Nat) e x,es[i]?=some e->ks[i]?=some x->RelT w g.M e.key x) (hf:IB kk m ks 0=some r):
  (r=none/\Instr.findNow (.int z) (.int kk m) es.toList 0=some none)\/ ∃i e,r=some i/\es[i]?=some e/\Instr.findNow (.int z) (.int kk m) es.toList 0=some (some (i,e.val)):=by
 rcases RT (z:=z) es.toList ks 0 (by simp[h4]) (fun i e x he hx=>h6 i e x (by rw[<-Array.getElem?_toList];exact he) hx) _ hf with h|⟨i,e,h1,h2,h3⟩
 ·exact .inl h
 ·exact .inr ⟨i,e,by rw[h1];simp,by rw[<-Array.getElem?_toList];exact h2,by rw[h3];simp⟩
theorem Xu {kk:IntKind} {m:Int}: ∀{ks:List T} {j i:Nat},IB kk m ks j=some (some i)->j<=i/\ks[i-j]?=some (.int kk m)
 |[],j,i,h=>by simp[IB]at h
 |x::r,j,i,h=>by
  cases x with
  |int k' b=>
   simp only[IB]at h
   split at h
   ·rename_i hk;subst hk
    split at h
    ·rename_i hb;subst hb
     simp at h;subst h
     exact⟨Nat.le_refl _,by simp⟩
    ·obtain⟨h1,h2⟩:=Xu h
     refine⟨by omega,?_⟩
     have:i-j=(i-(j+1))+1:=by omega
     rw[this];simpa using h2
   ·simp at h
  |_=>simp[IB]at h
theorem L9 {te:TE} (hte:CX P te) {w:World} {g:G} (hi:Inv w g σ) {a:Act} {env env':Env} {σ':St} (he:AK w g a env) {o:Oper} {x:AV} {t:Nat} {mo ko vo:Operand} (ho:o.op=.insert t mo ko vo\/o.op=.mapUpdate t mo ko vo) (h:PU te t mo ko vo env σ=some (x,env',σ')):
  BJ P o a w (ER w g a x env' σ'):=by
 unfold PU at h
 split at h
 ·rename_i et hke
  obtain⟨kt,z,ht,hkt⟩:=Ol hte hke
  split at h
  ·rename_i b hm
   split at h
   ·rename_i kk m hk
    split at h
    ·rename_i y hv
     split at h
     ·rename_i σ1 hp
      simp at h
      obtain⟨rfl,rfl,rfl⟩:=h
      unfold Ahx at hp
      split at hp
      ·rename_i ks xs hb
       have hkv:a.eval ko=.int kk m:=C3 (AG he hk)
       split at hp
       ·rename_i hf
        simp at hp;subst hp
        obtain⟨blk,es,clk,h1,h3,h4,h5,h6,h7,h8⟩:=PT (ks':=ks++[.int kk m]) (xs':=xs++[y]) hi hb
        have hmv:=I0 (AG he hm) h1
        obtain⟨q1,q2,q3⟩:=h8 (es.push ⟨.int kk m,a.eval vo,clk⟩) (clk+1) (by simp[h4]) (by simp[h5])
         (fun i e x hei hx=>by
          rw[Array.getElem?_push]at hei
          split at hei
          ·cases hei
           rw[List.getElem?_append_right Aa]at hx
           have:i-ks.length=0:=by omega
           rw[this]at hx;cases hx;exact .int _ _
          ·have hlt:i<es.size:=(Array.getElem?_eq_some_iff.1 hei).1
           rw[List.getElem?_append_left Aa]at hx
           exact h6 i e x hei hx)
         (fun i e x hei hx=>by
          rw[Array.getElem?_push]at hei
          split at hei
          ·cases hei
           rw[List.getElem?_append_right Aa]at hx
           have:i-xs.length=0:=by omega
           rw[this]at hx;cases hx;exact AG he hv
          ·have hlt:i<es.size:=(Array.getElem?_eq_some_iff.1 hei).1
           rw[List.getElem?_append_left Aa]at hx
           exact h7 i e x hei hx)
        rcases GS (z:=z) (w:=w) (g:=g) h4 h6 hf with⟨_,hfn⟩|⟨i,e,hn,_⟩
        ·refine BJ.skip (w':=w.putObj blk (.map (es.push ⟨.int kk m,a.eval vo,clk⟩) (clk+1))) ?_ ⟨g,q1,.t _ _ .undef,q2,he.mono q3⟩
         rcases ho with ho|ho<;>simp[execOp,ho,hmv,hkv,Instr.mapUpdate,Go.run_underlying ht,getObj,setObj,Sem.run,h3,Dk hkt,EX hkt hfn,World.putObj]
        ·cases hn
       ·rename_i i hf
        simp at hp;subst hp
        obtain⟨blk,es,clk,h1,h3,h4,h5,h6,h7,h8⟩:=PT (ks':=ks) (xs':=xs.set i y) hi hb
        have hmv:=I0 (AG he hm) h1
        rcases GS (z:=z) (w:=w) (g:=g) h4 h6 hf with⟨hn,_⟩|⟨i',e,hn,hei,hfn⟩
        ·cases hn
        ·cases hn
         have hkey:e.key=.int kk m:=by
          have:=h6 i e _ hei (Xu hf).2
          generalize e.key=u at this
          cases this;rfl
         obtain⟨q1,q2,q3⟩:=h8 (es.modify i fun e=>{e with key:=.int kk m,val:=a.eval vo}) clk (by simp[h4]) (by simp[h5])
          (fun j e' x hej hx=>by
           rw[Array.getElem?_modify]at hej
           split at hej
           ·rename_i hij;subst hij
            rw[hei]at hej;simp at hej;subst hej
            have:=h6 i e x hei hx
            rw[hkey]at this;exact this
           ·exact h6 j e' x hej hx)
          (fun j e' x hej hx=>by
           rw[Array.getElem?_modify]at hej
           rw[List.getElem?_set]at hx
           split at hej
           ·rename_i hij;subst hij
            rw[hei]at hej;simp at hej;subst hej
            rw[if_pos Y]at hx
            split at hx
            ·cases hx;exact AG he hv
            ·simp at hx
           ·rename_i hij
            rw[if_neg hij]at hx
            exact h7 j e' x hej hx)
         refine BJ.skip (w':=w.putObj blk (.map (es.modify i fun e=>{e with key:=.int kk m,val:=a.eval vo}) clk)) ?_ ⟨g,q1,.t _ _ .undef,q2,he.mono q3⟩
         have hks:(Instr.keyThatStays (.int kk m) (.int kk m)).run P w=.ok (.int kk m) w:=by simp[Instr.keyThatStays,UG]
         rcases ho with ho|ho<;>simp[execOp,ho,hmv,hkv,Instr.mapUpdate,Go.run_underlying ht,getObj,setObj,Sem.run,h3,Dk hkt,EX hkt hfn,World.putObj,hei,hkey,hks]
       ·simp at hp
      ·simp at hp
     ·simp at h
    ·simp at h
   ·simp at h
  ·simp at h
 ·simp at h
theorem OV {te:TE} (hte:CX P te) {w:World} {g:G} {es:Array MapEntry} {ks:List T} {xs:List AV} {kk z:IntKind} {m:Int} {et kt:Nat} {ok:Bool} {y:AV} (h4:es.size=ks.length) (h6: ∀(i:Nat) e x,es[i]?=some e->ks[i]?=some x->RelT w g.M e.key x)
  (h7: ∀(i:Nat) e x,es[i]?=some e->xs[i]?=some x->Rel w g e.val x) (hkt:P.underlying kt=some (.int z)) (h:PV te et ok kk m ks xs=some y):
  (∃i v,(Instr.findKey kt (.int kk m) es.toList).run P w=.ok (some (i,v)) w/\Rel w g (if ok then .tuple #[v,.bool true]else v) y)\/
   ∃v,(Instr.findKey kt (.int kk m) es.toList).run P w=.ok none w/\(zeroValue et).run P w=.ok v w/\Rel w g (if ok then .tuple #[v,.bool false]else v) y:=by
 have tup: ∀(v:Value) (x:AV) (b:Bool),Rel w g v x->Rel w g (if ok then .tuple #[v,.bool b]else v) (bif ok then .tuple [x,.t (.bool b)]else x):=fun v x b hr=>by
  cases ok with
  |false=>exact hr
  |true=>
   refine .tuple [v,.bool b] _ Y (fun i v' x' hv hx=>?_)
   match i with
   |0=>cases hv;cases hx;exact hr
   |1=>cases hv;cases hx;exact .t _ _ (.bool b)
   |i+2=>simp at hv
 unfold PV at h
 split at h
 ·rename_i i hf
  split at h
  ·rename_i x hx
   simp at h;subst h
   rcases GS (z:=z) (w:=w) (g:=g) h4 h6 hf with⟨hn,_⟩|⟨i',e,hn,hei,hfn⟩
   ·cases hn
   ·cases hn
    exact .inl ⟨_,e.val,EX hkt hfn,tup _ _ _ (h7 i e x hei hx)⟩
  ·simp at h
 ·rename_i hf
  split at h
  ·rename_i ei hei
   simp at h;subst h
   rcases GS (z:=z) (w:=w) (g:=g) h4 h6 hf with⟨_,hfn⟩|⟨i',e,hn,_⟩
   ·exact .inr ⟨BZ ei,EX hkt hfn,Do (hte _ _ hei) w,tup _ _ _ (Ab5 (hte _ _ hei))⟩
   ·cases hn
  ·simp at h
 ·simp at h
theorem Ru {w:World} {g:G} {v:Value} (h:Rel w g v (.t .nilMap)):v=.map none:=by
 have:=Aw h
 cases this;rfl
theorem GO {c:Cfg} (hte:CX P c.te) {w:World} {g:G} (hi:Inv w g σ) {a:Act} {env env':Env} {σ':St} (he:AK w g a env) {o:Oper} {x:AV} (h:WG c o env σ=some (x,env',σ')):BJ P o a w (ER w g a x env' σ'):=by
 unfold WG at h
 split at h
 ·rename_i t r ho
  split at h
  ·split at h
   ·rename_i d hd
    obtain⟨env1,σ1,g1,hk,hlk,hext,hi1,he1⟩:=Gj h hi he
    simp at hk
    obtain⟨rfl,rfl,rfl⟩:=hk
    have hm:=More.alloc w (.map #[] 0)
    obtain⟨k1,k2,k3⟩:=KS hi1 hlk hm (B:=.mp [] []) (fun hr=>⟨w.heap.size,#[],0,by simp[G.with],.inr Y,hm.new,Y,Y,by simp,by simp⟩)
    exact BJ.value (v:=.map (some w.heap.size)) (w':=w.alloc (.map #[] 0)) (by simp[execOp,ho,Instr.makeMap,newObj,Sem.run]) ⟨_,hext.trans k1,.mref _ _ (by simp[G.with]),k2,he1.mono k3⟩
   ·simp at h
  ·simp at h
 ·rename_i t m k v ho
  exact L9 hte hi he (.inl ho) h
 ·rename_i t m k v ho
  exact L9 hte hi he (.inr ho) h
 ·rename_i t mo ko ok ho
  split at h
  ·rename_i et hke
   obtain⟨kt,z,ht,hkt⟩:=Ol hte hke
   split at h
   ·rename_i kk m hk
    have hkv:a.eval ko=.int kk m:=C3 (AG he hk)
    split at h
    ·rename_i b hm
     split at h
     ·rename_i ks xs hb
      split at h
      ·rename_i y hy
       simp at h
       obtain⟨rfl,rfl,rfl⟩:=h
       obtain⟨blk,es,clk,h1,h2,h3,h4,h5,h6,h7⟩:=hi.ok b _ hb
       have hmv:=I0 (AG he hm) h1
       rcases OV (P:=P) hte (w:=w) h4 h6 h7 hkt hy with⟨i,v,q1,q3⟩|⟨v,q1,q2,q3⟩
       ·refine BJ.value (v:=if ok then .tuple #[v,.bool true]else v) (w':=w) ?_ ⟨g,A1t _ _,q3,hi,he⟩
        simp[execOp,ho,hmv,hkv,Instr.lookup,Go.run_underlying ht,getObj,Sem.run,h3,Dk hkt,q1]
       ·refine BJ.value (v:=if ok then .tuple #[v,.bool false]else v) (w':=w) ?_ ⟨g,A1t _ _,q3,hi,he⟩
        simp[execOp,ho,hmv,hkv,Instr.lookup,Go.run_underlying ht,getObj,Sem.run,h3,Dk hkt,q1,q2]
      ·simp at h
     ·simp at h
    ·rename_i hm
     split at h
     ·rename_i y hy
      simp at h
      obtain⟨rfl,rfl,rfl⟩:=h
      have hmv:=Ru (AG he hm)
      rcases OV (P:=P) hte (w:=w) (g:=g) (es:= #[]) Y Ac Ac hkt hy with⟨i,v,q1,q3⟩|⟨v,q1,q2,q3⟩
      ·refine BJ.value (v:=if ok then .tuple #[v,.bool true]else v) (w':=w) ?_ ⟨g,A1t _ _,q3,hi,he⟩
       simp at q1
       simp[execOp,ho,hmv,hkv,Instr.lookup,Go.run_underlying ht,Dk hkt,q1]
      ·refine BJ.value (v:=if ok then .tuple #[v,.bool false]else v) (w':=w) ?_ ⟨g,A1t _ _,q3,hi,he⟩
       simp at q1
       simp[execOp,ho,hmv,hkv,Instr.lookup,Go.run_underlying ht,Dk hkt,q1,q2]
     ·simp at h
    ·simp at h
   ·simp at h
  ·simp at h
 ·rename_i cl ho
  split at h
  ·rename_i hcl
   split at h
   ·rename_i mo ha
    split at h
    ·rename_i t ts hty
     split at h
     ·rename_i i1 i2 i3 kt et hl
      have ht:=Aaj (hte _ _ hl) Y
      have ha1:cl.args= #[mo]:=by apply Array.ext';simp[ha]
      have ht0:cl.argTypes[0]?=some t:=by rw[<-Array.getElem?_toList,hty];rfl
      split at h
      ·rename_i b hm
       split at h
       ·rename_i ks xs hb
        simp at h
        obtain⟨rfl,rfl,rfl⟩:=h
        obtain⟨blk,es,clk,h1,h2,h3,h4,h5,h6,h7⟩:=hi.ok b _ hb
        have hmv:=I0 (AG he hm) h1
        refine BJ.value (v:=.int .i64 (ks.length:Int)) (w':=w) ?_ ⟨g,A1t _ _,.t _ _ (.int _ _),hi,he⟩
        simp[execOp,ho,resolve,hcl,invoke,builtin,ha1,ht0,hmv,Builtin.len_,Go.run_underlying ht,getObj,Sem.run,h3,goInt,h4]
       ·simp at h
      ·rename_i hm
       simp at h
       obtain⟨rfl,rfl,rfl⟩:=h
       have hmv:=Ru (AG he hm)
       refine BJ.value (v:=.int .i64 0) (w':=w) ?_ ⟨g,A1t _ _,.t _ _ (.int _ _),hi,he⟩
       simp[execOp,ho,resolve,hcl,invoke,builtin,ha1,ht0,hmv,Builtin.len_,Go.run_underlying ht,goInt]
      ·simp at h
     ·simp at h
    ·simp at h
   ·simp at h
  ·rename_i hcl
   split at h
   ·rename_i mo ko ha
    split at h
    ·rename_i t ts hty
     split at h
     ·rename_i et hke
      obtain⟨kt,z,ht,hkt⟩:=Ol hte hke
      have ha1:cl.args= #[mo,ko]:=by apply Array.ext';simp[ha]
      have ht0:cl.argTypes[0]?=some t:=by rw[<-Array.getElem?_toList,hty];rfl
      split at h
      ·rename_i b hm
       split at h
       ·rename_i kk m hk
        have hkv:a.eval ko=.int kk m:=C3 (AG he hk)
        split at h
        ·rename_i σ1 hp
         simp at h
         obtain⟨rfl,rfl,rfl⟩:=h
         unfold Ahy at hp
         split at hp
         ·rename_i ks xs hb
          split at hp
          ·rename_i hf
           simp at hp;subst hp
           obtain⟨blk,es,clk,h1,h3,h4,h5,h6,h7,h8⟩:=PT (ks':=ks) (xs':=xs) hi hb
           have hmv:=I0 (AG he hm) h1
           obtain⟨q1,q2,q3⟩:=h8 es clk h4 h5 h6 h7
           rcases GS (z:=z) (w:=w) (g:=g) h4 h6 hf with⟨_,hfn⟩|⟨i,e,hn,_⟩
           ·refine BJ.value (v:=.tuple #[]) (w':=w.putObj blk (.map es clk)) ?_ ⟨g,q1,.tuple [] _ Y Ac,q2,he.mono q3⟩
            simp[execOp,ho,resolve,hcl,invoke,builtin,ha1,ht0,hmv,hkv,Builtin.delete_,Go.run_underlying ht,getObj,setObj,Sem.run,h3,Dk hkt,EX hkt hfn,World.putObj]
           ·cases hn
          ·rename_i i hf
           simp at hp;subst hp
           obtain⟨blk,es,clk,h1,h3,h4,h5,h6,h7,h8⟩:=PT (ks':=ks.eraseIdx i) (xs':=xs.eraseIdx i) hi hb
           have hmv:=I0 (AG he hm) h1
           rcases GS (z:=z) (w:=w) (g:=g) h4 h6 hf with⟨hn,_⟩|⟨i',e,hn,hei,hfn⟩
           ·cases hn
           ·cases hn
            have hlt:i<es.size:=(Array.getElem?_eq_some_iff.1 hei).1
            have hel:(es.eraseIdxIfInBounds i).toList=es.toList.eraseIdx i:=by simp[Array.eraseIdxIfInBounds,hlt]
            have hes:(es.eraseIdxIfInBounds i).size=es.size-1:=by simp[Array.eraseIdxIfInBounds,hlt]
            obtain⟨q1,q2,q3⟩:=h8 (es.eraseIdxIfInBounds i) clk (by rw[hes,List.length_eraseIdx,if_pos Aa,h4]) (by rw[hes,List.length_eraseIdx,if_pos Aa,h5])
             (fun j e x hej hx=>N4 (w:=w) (es:=es.toList) (R:=fun e x=>RelT w g.M e.key x) (i:=i) (by simp[h4]) (fun j e x a b=>h6 j e x (by rw[<-Array.getElem?_toList];exact a) b) j e x (by rw[<-hel,Array.getElem?_toList];exact hej) hx)
             (fun j e x hej hx=>N4 (w:=w) (es:=es.toList) (R:=fun e x=>Rel w g e.val x) (i:=i) (by simp[h5]) (fun j e x a b=>h7 j e x (by rw[<-Array.getElem?_toList];exact a) b) j e x (by rw[<-hel,Array.getElem?_toList];exact hej) hx)
            refine BJ.value (v:=.tuple #[]) (w':=w.putObj blk (.map (es.eraseIdxIfInBounds i) clk)) ?_ ⟨g,q1,.tuple [] _ Y Ac,q2,he.mono q3⟩
            simp[execOp,ho,resolve,hcl,invoke,builtin,ha1,ht0,hmv,hkv,Builtin.delete_,Go.run_underlying ht,getObj,setObj,Sem.run,h3,Dk hkt,EX hkt hfn,World.putObj]
          ·simp at hp
         ·simp at hp
        ·simp at h
       ·simp at h
      ·simp at h
     ·simp at h
    ·simp at h
   ·simp at h
  ·simp at h
 ·simp at h
end
end Go.Am
namespace Go.Am
section
variable {P:Program} {c:Cfg} {w:World} {g:G} {σ:St}
theorem BJ.mono {o:Oper} {a:Act} {R R':Value->World->Prop} (h:BJ P o a w R) (hr: ∀v w',R v w'->R' v w'):BJ P o a w R':=
 fun F hF next Q hn=>h F hF next Q fun v w' hv=>hn v w' (hr v w' hv)
theorem Aau {α:Type} (z:List α): ∀(l i:Nat) (y:α),(List.replicate l z).flatten[i]?=some y->z[i % z.length]?=some y
 |0,i,y,h=>by simp at h
 |l+1,i,y,h=>by
  rw[List.replicate_succ,List.flatten_cons]at h
  by_cases hi:i<z.length
  ·rw[List.getElem?_append_left hi]at h
   rw[Nat.mod_eq_of_lt hi];exact h
  ·rw[List.getElem?_append_right Aa]at h
   have:=Aau z l _ y h
   rw[Nat.mod_eq_sub_mod Aa]
   exact this
theorem Zf {te:TE} (hte:CX P te) (hi:Inv w g σ) {a:Act} {env env':Env} {σ':St} (he:AK w g a env) {t d:Nat} {u v:Value} {p q x:AV} (hp:Rel w g u p) (hq:Rel w g v q)
  (h:R6 te t d p q env σ=some (x,env',σ')): ∃r w',(Instr.makeSlice t u v).run P w=.ok r w'/\ER w g a x env' σ' r w':=by
 unfold R6 at h
 split at h
 ·rename_i i1 i2 i3 e hl
  split at h
  ·rename_i ei hei
   split at h
   ·rename_i k1 l0
    split at h
    ·rename_i l hl0
     split at h
     ·rename_i k2 c0
      split at h
      ·rename_i cp hc0
       split at h
       ·rename_i hlc
        split at h
        ·rename_i hb
         obtain⟨env1,σ1,g1,hk,hlk,hext,hi1,he1⟩:=Gj h hi he
         simp at hk
         obtain⟨rfl,rfl,rfl⟩:=hk
         obtain⟨inf,hinf,hs1,hs2,hs3⟩:=(hte _ _ hei).info'
         have hu:P.underlying t=some (.slice e):=by
          obtain⟨d,hd,hdk⟩:=(hte _ _ hl).und'
          cases d<;>simp[Dj]at hdk
          subst hdk;exact hd
         have hzr:=DM (w:=w) (g:=g1) (hte _ _ hei)
         have hzl:=(hte _ _ hei).len
         have hzs:(BZ ei).cells.size=ei.size:=by rw[<-hzl,<-AU,<-hzr.1];simp
         rw[C3 hp,C3 hq,Ke hl0,Ke hc0]
         have hb':cp*ei.bytes+cp<=140737488355328:=by rw[Nat.mul_add,Nat.mul_one]at hb;exact hb
         have hb2:(inf.bytes:Int)*(cp:Int)<=281474976710656:=by
          rw[hs2,<-Int.natCast_mul,Nat.mul_comm];omega
         have hr:=run_make (P:=P) w t e inf (BZ ei) hu hinf hs3 k1 k2 (l:Int) (cp:Int) Aa Aa hb2 Aa
         simp only[Int.toNat_natCast]at hr
         refine⟨_,_,hr,ER.lift hext ?_⟩
         have hall: ∀e∈List.replicate l ei.zero,e.length=ei.size:=fun e he=>by
          rw[(List.mem_replicate.1 he).2];exact hzl
         have:=Nw (w:=w) (cap:=cp) (e:=e) (arr:=madeCells (BZ ei).cells (cp*inf.size)) hi1 hlk he1 (More.alloc w _) hall ?_ (by simpa using hlc) ?_ ?_
         ·simpa using this
         ·rw[Dg ei.size _ hall,size_madeCells,hs1]
          simpa using Nat.mul_le_mul_right ei.size hlc
         ·rw[size_madeCells,hs1];exact Nat.le_refl _
         ·intro i v y hv hy
          have hy':=Aau _ _ _ _ hy
          have hlt:=AW hy'
          have hv':(BZ ei).cells[i % ei.zero.length]?=some v:=by
           have hsz:ei.zero.length=(BZ ei).cells.size:=by rw[hzs,hzl]
           rw[hsz]at hlt⊢
           unfold madeCells at hv
           have hiv:=Array.getElem?_eq_some_iff.1 hv
           obtain⟨hh,hiv⟩:=hiv
           simp at hiv
           rw[<-hiv]
           simp[hlt]
          have hrl:=hzr.2 (i % ei.zero.length) v (.t y) (by simpa using hv') (by rw[BV,hy'];rfl)
          refine⟨?_,Aw hrl⟩
          have:=(hte _ _ hei).const
          rw[List.all_eq_true]at this
          have hcst:=this y (List.mem_of_getElem? hy')
          cases y<;>simp[GB]at hcst<;>rfl
        ·simp at h
       ·simp at h
      ·simp at h
     ·simp at h
    ·simp at h
   ·simp at h
  ·simp at h
 ·simp at h
theorem EW (hte:CX P c.te) (hi:Inv w g σ) {a:Act} {env env':Env} {σ':St} (he:AK w g a env) {o:Oper} {x:AV} (h:F1 c o env σ=some (x,env',σ')):
  BJ P o a w (ER w g a x env' σ'):=by
 unfold F1 at h
 split at h
 case h_1 t ho=>
  split at h
  ·rename_i d hd
   split at h
   ·rename_i ti hl
    obtain⟨env1,σ1,g1,hk,hlk,hext,hi1,he1⟩:=Gj h hi he
    simp[KW]at hk
    obtain⟨rfl,rfl,rfl⟩:=hk
    refine(Un (e:=t) (u:=BZ ti) hi1 he1 hlk (DM (hte _ _ hl)) ?_).mono fun v w' hp=>hp.lift hext
    have hz:=Do (hte _ _ hl) w
    simp only[execOp,ho,Sem.run_bind,Instr.alloc,hz,Result.andThen_ok,newVar,newRow,newObj,Sem.run,Sem.run_pure]
    rfl
   ·simp at h
  ·simp at h
 case h_2 t y ho=>
  split at h
  ·rename_i d hd
   split at h
   ·split at h
    ·rename_i z hz
     split at h
     ·rename_i cs hcs
      split at h
      ·rename_i ts hts
       simp at h
       obtain⟨rfl,rfl,rfl⟩:=h
       obtain⟨hcr,hco⟩:=Jz (AG he hz) hcs
       obtain⟨t1,t2⟩:=hcr.allT hts
       have hm:=More.alloc w (.cells (a.eval y).cells t)
       obtain⟨k1,k2,k3⟩:=Ez hi hm
       refine BJ.value (v:=.pointer (some ⟨w.heap.size,0,none⟩)) (w':=w.alloc (.cells (a.eval y).cells t)) ?_ ⟨g,k1,?_,k2,he.mono k3⟩
       ·simp only[execOp,ho,Sem.run_bind,Instr.box,Result.andThen_ok,newVar,newRow,newObj,Sem.run,Sem.run_pure]
        rfl
       ·refine .t _ _ (YQ fun i x hx=>?_)
        have hlt:=AW hx
        obtain⟨v,hv⟩: ∃v,(a.eval y).cells.toList[i]?=some v:=⟨(a.eval y).cells.toList[i]'(by rw[t1];exact hlt),List.getElem?_eq_getElem _⟩
        refine⟨Aia hi _,?_,v,?_,Aw (k3 _ _ (.t _ _ (t2 i v x hv hx)))⟩
        ·exact H9 hco i (.t x) (by rw[IJ hts,BV,hx];rfl)
        ·rw[Nat.zero_add,EH hm.new,<-Array.getElem?_toList];exact hv
      ·simp at h
     ·simp at h
    ·simp at h
   ·obtain⟨env1,σ1,g1,hk,hlk,hext,hi1,he1⟩:=Gj h hi he
    split at hk
    ·rename_i z hz
     split at hk
     ·rename_i cs hcs
      simp[KW]at hk
      obtain⟨rfl,rfl,rfl⟩:=hk
      refine(Un (e:=t) (u:=a.eval y) hi1 he1 hlk (Jz (AG he1 hz) hcs).1 ?_).mono fun v w' hp=>hp.lift hext
      simp only[execOp,ho,Sem.run_bind,Instr.box,Result.andThen_ok,newVar,newRow,newObj,Sem.run,Sem.run_pure]
      rfl
     ·simp at hk
    ·simp at hk
  ·simp at h
 case h_3 t parts ho=>
  split at h
  ·rename_i z hz
   simp at h
   obtain⟨rfl,rfl,rfl⟩:=h
   obtain⟨v,h1,h2⟩:=XP (P:=P) hte he hz
   refine BJ.value (v:=v) (w':=w) ?_ ⟨g,A1t _ _,h2,hi,he⟩
   simp only[execOp,ho,Sem.run_bind]
   simp[h1]
  ·simp at h
 case h_4 t n parts ho=>
  split at h
  ·rename_i z hz
   simp at h
   obtain⟨rfl,rfl,rfl⟩:=h
   obtain⟨v,w',h1,h2,h3,h4,h5,_⟩:=IF (P:=P) hte hi he hz
   refine BJ.value (v:=v) (w':=w') ?_ ⟨g,h2,h3,h4,he.mono h5⟩
   simp only[execOp,ho,Sem.run_bind]
   simp[h1]
  ·simp at h
 case h_5 t p ho=>
  split at h
  ·rename_i q hq
   split at h
   ·rename_i z hz
    simp at h
    obtain⟨rfl,rfl,rfl⟩:=h
    obtain⟨v,h1,h2⟩:=R9 (P:=P) hte hi (AG he hq) hz
    exact BJ.value (v:=v) (w':=w) (by simp[execOp,ho,h1]) ⟨g,A1t _ _,h2,hi,he⟩
   ·simp at h
  ·simp at h
 case h_6 t p y ho=>
  split at h
  ·rename_i q hq
   split at h
   ·rename_i z hz
    split at h
    ·rename_i σ1 hs
     simp at h
     obtain⟨rfl,rfl,rfl⟩:=h
     obtain⟨w',h1,h2,h3,h4⟩:=OI (P:=P) hte hi (AG he hq) (AG he hz) hs
     exact BJ.skip (w':=w') (by simp[execOp,ho,h1]) ⟨g,h2,.t _ _ .undef,h3,he.mono h4⟩
    ·simp at h
   ·simp at h
  ·simp at h
 case h_7 t l k ho=>
  split at h
  ·rename_i d hd
   split at h
   ·rename_i p hp
    split at h
    ·rename_i q hq
     obtain⟨v,w',h1,h2⟩:=Zf (P:=P) hte hi he (AG he hp) (AG he hq) h
     exact BJ.value (v:=v) (w':=w') (by simp[execOp,ho,h1]) h2
    ·simp at h
   ·simp at h
  ·simp at h
 case h_8 cl ho=>
  split at h
  ·rename_i hc
   split at h
   ·rename_i s y hargs
    split at h
    ·rename_i p hp
     split at h
     ·rename_i q hq
      split at h
      ·rename_i t t' hts
       split at h
       ·rename_i d hd
        split at h
        ·rename_i htt
         subst htt
         obtain⟨v,w',h1,h2⟩:=V9 (P:=P) (ty:=o.type) hte hi he (AG he hp) (AG he hq) h
         refine BJ.value (v:=v) (w':=w') ?_ h2
         have ha1:cl.args= #[s,y]:=by apply Array.ext';simp[hargs]
         have ha2:cl.argTypes= #[t,t]:=by apply Array.ext';simp[hts]
         simp[execOp,ho,resolve,hc,invoke,builtin,ha1,ha2,h1]
        ·simp at h
       ·simp at h
      ·simp at h
     ·simp at h
    ·simp at h
   ·simp at h
  ·simp at h
 case h_9=>simp at h
end
end Go.Am
namespace Go.Am
mutual
def B5 (b sz:Nat) (es:List (List T)):AV->AV
 |.t x=>.t x
 |.top=>.top
 |.ref c o=>bif Nat.beq c b then .top else .ref c o
 |.eref c s k o=>bif Nat.beq c b then .top else .eref c s k o
 |.mref c=>bif Nat.beq c b then .top else .mref c
 |.row c s lo len=>bif Nat.beq c b then(if s=sz then(if lo+len<=es.length then .t (.slice .any sz ((es.drop lo).take len))else .top)else .top)else .row c s lo len
 |.iface t x=>match B5 b sz es x with
  |.t y=>.t (.iface t y)
  |y=>.iface t y
 |.func fn f c=>Lh fn (FF b sz es f) (FF b sz es c)
 |.agg cs=>.agg (FF b sz es cs)
 |.tuple cs=>.tuple (FF b sz es cs)
def FF (b sz:Nat) (es:List (List T)):List AV->List AV
 |[]=>[]
 |x::r=>B5 b sz es x::FF b sz es r
end
def I9 (b sz:Nat) (es:List (List T)):Env->Env
 |[]=>[]
 |(t,x)::r=>(t,B5 b sz es x)::I9 b sz es r
def Gf (b sz:Nat) (es:List (List T)):St->St
 |[]=>[]
 |(c,B)::r=>bif Nat.beq c b then Gf b sz es r else(c,match B with
  |.cells cs=>.cells (FF b sz es cs)
  |.loop l st pe ps asg bd n env=>.loop l st pe ps asg bd n (I9 b sz es env)
  |.mp ks xs=>.mp ks (FF b sz es xs)
  |B=>B)::Gf b sz es r
def Ayx (b sz:Nat) (es:List (List T)) (B:Blk):Blk:=match B with
  |.cells cs=>.cells (FF b sz es cs)
  |.loop l st pe ps asg bd n env=>.loop l st pe ps asg bd n (I9 b sz es env)
  |.mp ks xs=>.mp ks (FF b sz es xs)
  |B=>B
theorem Gg (b sz:Nat) (es:List (List T)): ∀l,(FF b sz es l).length=l.length
 |[]=>by simp[FF]
 |x::r=>by simp[FF,Gg b sz es r]
theorem Gh (b sz:Nat) (es:List (List T)): ∀(l:List AV) (i:Nat),(FF b sz es l)[i]?=(l[i]?).map (B5 b sz es)
 |[],i=>by simp[FF]
 |x::r,0=>by simp[FF]
 |x::r,i+1=>by simp[FF,Gh b sz es r i]
theorem Fu (b sz:Nat) (es:List (List T)): ∀(l:Env) (t:Nat),look (I9 b sz es l) t=(look l t).map (B5 b sz es)
 |[],t=>by simp[I9,look]
 |(k,x)::r,t=>by
  simp only[I9]
  rw[Ao,Ao,Fu b sz es r t]
  by_cases h:k=t<;>simp[h]
theorem Cr {a b:Nat} (h:a≠b):Nat.beq a b=false:=by
 cases hb:Nat.beq a b with
 |false=>rfl
 |true=>exact absurd (Nat.eq_of_beq_eq_true hb) h
theorem GQ (b sz:Nat) (es:List (List T)): ∀(l:St) (c:Nat),look (Gf b sz es l) c=if c=b then none else(look l c).map (Ayx b sz es)
 |[],c=>by simp[Gf,look]
 |(k,B)::r,c=>by
  by_cases h:k=b
  ·subst h
   simp only[Gf,Nat.beq_refl,cond_true]
   rw[GQ k sz es r c,Ao]
   by_cases h2:c=k
   ·simp[h2]
   ·simp[h2,Ne.symm h2]
  ·simp only[Gf,Cr h,cond_false]
   rw[Ao,Ao,GQ b sz es r c]
   by_cases h2:k=c
   ·subst h2;simp[h];cases B<;>rfl
   ·simp[h2]
def G.frz (g:G) (b:Nat):G:={g with β:=fun c=>if c=b then none else g.β c,own:=fun blk=>g.own blk/\g.β b≠some (some blk)}
section
variable {w:World} {g:G} {σ:St}
theorem Ama (hi:Inv w g σ) {b sz:Nat} {es:List (List T)} (hb:look σ b=some (.grow sz es)) {g':G} (hkeep:HC w g.M w g'.M) (hβ: ∀c p,c≠b->g.β c=some p->g'.β c=some p)
  (hcell: ∀blk,g.β b=some (some blk)-> ∀i,i<es.flatten.length-> ¬g'.M blk i): ∀v x,Rel w g v x->Rel w g' v (B5 b sz es x):=by
 obtain⟨hall,hok⟩:=hi.ok b _ hb
 intro v x h
 induction h with
 |t v x h=>simp only[B5];exact .t _ _ (h.mono hkeep)
 |top v=>simp only[B5];exact .top v
 |ref c o blk h=>
  simp only[B5]
  by_cases e:c=b
  ·subst e;simp;exact .top _
  ·rw[Cr e];exact .ref _ _ _ (hβ _ _ e h)
 |eref c s k o blk h=>
  simp only[B5]
  by_cases e:c=b
  ·subst e;simp;exact .top _
  ·rw[Cr e];exact .eref _ _ _ _ _ (hβ _ _ e h)
 |mref c blk h=>
  simp only[B5]
  by_cases e:c=b
  ·subst e;simp;exact .top _
  ·rw[Cr e];exact .mref _ _ (hβ _ _ e h)
 |rowNil c s a0 ha0 h=>
  simp only[B5]
  by_cases e:c=b
  ·subst e
   simp only[Nat.beq_refl,cond_true]
   split
   ·simp
    cases a0 with
    |none=>exact .t _ _ (.sliceNil _ _)
    |some x=>exact .t _ _ (.sliceZ x _ _ Ac)
   ·exact .top _
  ·rw[Cr e];exact .rowNil _ _ _ ha0 (hβ _ _ e h)
 |row c s lo len blk o cap e0 n h hs ho hl hn=>
  simp only[B5]
  by_cases e:c=b
  ·subst e
   simp only[Nat.beq_refl,cond_true]
   split
   ·rename_i hsz
    subst hsz
    split
    ·rename_i hlen
     rcases hok with⟨h1,_⟩|⟨blk',vs,et,h1,h2,h3,h4,h5⟩
     ·rw[h]at h1;cases h1
     ·rw[h]at h1;cases h1
      have hl':((es.drop lo).take len).length=len:=by simp;omega
      refine .t _ _ (DN hl' hl Ac Ac (fun e he=>hall e (List.mem_of_mem_drop (List.mem_of_mem_take he))) ?_)
      intro i x hx
      have hfl:=C7 s es hall lo len i x hx
      have hlt:=AW hfl
      have hlt0:=AW hx
      have hne0:len≠0:=by intro h0;subst h0;simp at hlt0
      have ho':o=lo*s:=by rcases ho with h'|h'<;>omega
      obtain⟨v,hv⟩: ∃v,vs[lo*s+i]?=some v:=⟨vs[lo*s+i]' Aa,Array.getElem?_eq_getElem _⟩
      have:=h5 _ v x hv hfl
      refine⟨?_,this.1,v,by rw[ho',EH h3];exact hv,this.2.mono hkeep⟩
      exact hcell blk h _ Aa
    ·exact .top _
   ·exact .top _
  ·rw[Cr e];exact .row _ _ _ _ blk o cap e0 n (hβ _ _ e h) hs ho hl hn
 |iface t v x _ ih=>
  simp only[B5]
  split
  ·rename_i y hy
   rw[hy]at ih
   exact .t _ _ (.iface _ _ _ (Aw ih))
  ·exact .iface _ _ _ ih
 |func fn v1 v2 x1 x2 h1 h2 _ _ i1 i2=>
  simp only[B5]
  refine LA ⟨by rw[Gg];exact h1,fun i v x hv hx=>?_⟩ ⟨by rw[Gg];exact h2,fun i v x hv hx=>?_⟩
  ·rw[Gh]at hx
   cases hg:x1[i]? with
   |none=>simp[hg]at hx
   |some y=>simp[hg]at hx;subst hx;exact i1 i v y hv hg
  ·rw[Gh]at hx
   cases hg:x2[i]? with
   |none=>simp[hg]at hx
   |some y=>simp[hg]at hx;subst hx;exact i2 i v y hv hg
 |agg vs xs h _ ih=>
  simp only[B5]
  refine .agg vs _ (by rw[Gg];exact h) fun i v x hv hx=>?_
  rw[Gh]at hx
  cases hg:xs[i]? with
  |none=>simp[hg]at hx
  |some y=>simp[hg]at hx;subst hx;exact ih i v y hv hg
 |tuple vs xs h _ ih=>
  simp only[B5]
  refine .tuple vs _ (by rw[Gg];exact h) fun i v x hv hx=>?_
  rw[Gh]at hx
  cases hg:xs[i]? with
  |none=>simp[hg]at hx
  |some y=>simp[hg]at hx;subst hx;exact ih i v y hv hg
theorem freeze (hi:Inv w g σ) {b sz:Nat} {es:List (List T)} (hb:look σ b=some (.grow sz es)):
  Ext w g w (g.frz b)/\Inv w (g.frz b) (Gf b sz es σ)/\(∀v x,Rel w g v x->Rel w (g.frz b) v (B5 b sz es x)):=by
 have hnb: ¬g.bx b:=fun h=>by obtain⟨cs,h'⟩:=(hi.bx _ h).2;rw[hb]at h';cases h'
 have hne: ∀c,g.bx c->c≠b:=fun c hc e=>hnb (e▸hc)
 have hM: ∀c o,(g.frz b).M c o->g.M c o:=by
  rintro c o (h|h)
  ·exact .inl ⟨h.1.1,h.2⟩
  ·exact .inr h
 have hkeep:HC w g.M w (g.frz b).M:=fun c o v h1 h2=>⟨fun h=>h1 (hM c o h),h2⟩
 have hext:Ext w g w (g.frz b):=⟨Nat.le_refl _,fun _ _ _=>rfl,fun _ _ h=>h.1,fun _ _=>Iff.rfl,fun _ _ h=>h,fun c hc=>⟨hc,by simp[G.frz,hne c hc]⟩,⟨Y,Y,Y⟩,Gt (fun _ _ _ _ h=>h) (fun _ _ _ _ _=>rfl)⟩
 obtain⟨hall,hok⟩:=hi.ok b _ hb
 have hβ: ∀c p,c≠b->g.β c=some p->(g.frz b).β c=some p:=fun c p h1 h2=>by simp[G.frz,h1,h2]
 have hr: ∀v x,Rel w g v x->Rel w (g.frz b) v (B5 b sz es x):=Ama hi hb hkeep hβ fun blk h i _=>by
  have h2:=(E9 hi h).2.1
  rintro(h'|h')
  ·exact h'.1.2 h
  ·exact hi.dis _ _ h2 h'
 refine⟨hext,⟨?_,?_,?_,fun blk h=>hi.lt blk (h.imp (fun q=>q.1) (fun q=>q)),?_,fun blk o h=>hi.dis blk o h.1,hi.im_of hext.keeps,hi.lo,hi.sx.mono (Nat.le_refl _) Y (fun blk e h ho=>⟨ho,fun hc=>by rw[hi.sx.bs _ _ hc]at h;cases h⟩) (fun _ _ _ _ _=>rfl) (fun c blk h=>?_) (fun c L hL=>?_)⟩,hr⟩
 ·intro c C hC
  rw[GQ]at hC
  split at hC
  ·simp at hC
  ·rename_i hcb
   cases hl:look σ c with
   |none=>simp[hl]at hC
   |some D=>
    simp only[hl,Option.map_some,Option.some.injEq]at hC
    subst hC
    have hokc:=hi.ok c D hl
    have hown': ∀blk,g.β c=some (some blk)->g.own blk->(g.frz b).own blk:=fun blk h1 h2=>⟨h2,fun h=>hcb (hi.inj _ _ _ h1 h)⟩
    cases D with
    |cells cs=>
     obtain⟨blk,vs,e,h1,h2,h3,h4,h5⟩:=hokc
     refine⟨blk,vs,e,hβ _ _ hcb h1,hown' _ h1 h2,h3,by rw[Gg];exact h4,fun i v x hv hx=>?_⟩
     rw[Gh]at hx
     cases hg:cs[i]? with
     |none=>simp[hg]at hx
     |some y=>simp[hg]at hx;subst hx;exact hr _ _ (h5 i v y hv hg)
    |grow sz' es'=>
     obtain⟨h0,h⟩:=hokc
     refine⟨h0,?_⟩
     rcases h with⟨h1,h2⟩|⟨blk,vs,e,h1,h2,h3,h4,h5⟩
     ·exact .inl ⟨hβ _ _ hcb h1,h2⟩
     ·exact .inr ⟨blk,vs,e,hβ _ _ hcb h1,hown' _ h1 h2,h3,h4,fun i v x hv hx=>⟨(h5 i v x hv hx).1,(h5 i v x hv hx).2.mono hkeep⟩⟩
    |rights L=>exact hβ _ _ hcb hokc
    |loop l st pe ps asg bd n env=>
     obtain⟨r,h1,h2,h3,h4,h5,h6⟩:=hokc
     refine⟨r,hβ _ _ hcb h1,hown' _ h1 h2,h3,h4,h5,fun t x ht=>?_⟩
     rw[Fu]at ht
     cases hg:look env t with
     |none=>simp[hg]at ht
     |some y=>simp[hg]at ht;subst ht;exact hr _ _ (h6 t y hg)
    |mp ks ys=>
     obtain⟨blk,fs,clk,h1,h2,h3,h4,h5,h6,h7⟩:=hokc
     refine⟨blk,fs,clk,hβ _ _ hcb h1,hown' _ h1 h2,h3,h4,by rw[Gg];exact h5,fun i e x he hx=>(h6 i e x he hx).mono hkeep,fun i e x he hx=>?_⟩
     rw[Gh]at hx
     cases hg:ys[i]? with
     |none=>simp[hg]at hx
     |some y=>simp[hg]at hx;subst hx;exact hr _ _ (h7 i e y he hg)
 ·intro c
  rw[GQ]
  by_cases e:c=b
  ·simp[e,G.frz]
  ·simp only[if_neg e,G.frz]
   rw[<-hi.dom c];cases look σ c<;>rfl
 ·intro c c' blk h1 h2
  simp only[G.frz]at h1 h2
  split at h1
  ·cases h1
  ·split at h2
   ·cases h2
   ·exact hi.inj _ _ _ h1 h2
 ·intro c hc
  obtain⟨h1,cs,h2⟩:=hi.bx c hc
  exact⟨h1,FF b sz es cs,by rw[GQ,if_neg (hne c hc),h2];rfl⟩
 ·simp only[G.frz]at h
  split at h
  ·cases h
  ·exact .inl ⟨c,h⟩
 ·rw[GQ]at hL
  split at hL
  ·cases hL
  ·cases hl:look σ c with
   |none=>simp[hl]at hL
   |some D=>
    simp only[hl,Option.map_some,Option.some.injEq]at hL
    cases D<;>simp[Ayx]at hL
    subst hL;rfl
end
end Go.Am
namespace Go.Am
mutual
def AV.free:AV->Bool
 |.t _=>true
 |.top=>true
 |.ref _ _=>false
 |.eref _ _ _ _=>false
 |.mref _=>false
 |.row _ _ _ _=>false
 |.iface _ x=>x.free
 |.func _ f c=>D7 f&&D7 c
 |.agg cs=>D7 cs
 |.tuple cs=>D7 cs
def D7:List AV->Bool
 |[]=>true
 |x::r=>x.free&&D7 r
end
theorem E0: ∀{l:List AV},D7 l=true-> ∀(i:Nat) x,l[i]?=some x->x.free=true
 |[],_,i,x,h=>by simp at h
 |y::r,hf,i,x,h=>by
  simp only[D7,Bool.and_eq_true]at hf
  cases i with
  |zero=>simp at h;subst h;exact hf.1
  |succ i=>simp at h;exact E0 hf.2 i x h
theorem Rel.free {w w':World} {g g':G} (hk:HC w g.M w' g'.M) {v:Value} {x:AV} (h:Rel w g v x):x.free=true->Rel w' g' v x:=by
 induction h with
 |t v x h=>exact fun _=>.t v x (h.mono hk)
 |top v=>exact fun _=>.top v
 |ref b off blk h=>intro hh;simp[AV.free]at hh
 |eref b sz k off blk h=>intro hh;simp[AV.free]at hh
 |mref b blk h=>intro hh;simp[AV.free]at hh
 |rowNil b sz a ha h=>intro hh;simp[AV.free]at hh
 |row b sz lo len blk o cap e n h hs' ho hl hn=>intro hh;simp[AV.free]at hh
 |iface t v x _ ih=>intro hh;simp only[AV.free]at hh;exact .iface t v x (ih hh)
 |func fn v1 v2 x1 x2 h1 h2 _ _ i1 i2=>
  intro hh;simp only[AV.free,Bool.and_eq_true]at hh
  exact .func fn v1 v2 x1 x2 h1 h2 (fun i v x a b=>i1 i v x a b (E0 hh.1 i x b)) (fun i v x a b=>i2 i v x a b (E0 hh.2 i x b))
 |agg vs xs h _ ih=>intro hh;simp only[AV.free]at hh;exact .agg vs xs h (fun i v x a b=>ih i v x a b (E0 hh i x b))
 |tuple vs xs h _ ih=>intro hh;simp only[AV.free]at hh;exact .tuple vs xs h (fun i v x a b=>ih i v x a b (E0 hh i x b))
mutual
def upA:AV->AV
 |.t x=>.t x
 |.top=>.top
 |.ref c o=>.ref (2*c+1) o
 |.eref c s k o=>.eref (2*c+1) s k o
 |.mref c=>.mref (2*c+1)
 |.row c s lo len=>.row (2*c+1) s lo len
 |.iface t x=>.iface t (upA x)
 |.func fn f c=>.func fn (upL f) (upL c)
 |.agg cs=>.agg (upL cs)
 |.tuple cs=>.tuple (upL cs)
def upL:List AV->List AV
 |[]=>[]
 |x::r=>upA x::upL r
end
def upE:List (Nat×AV)->List (Nat×AV)
 |[]=>[]
 |(t,x)::r=>(t,upA x)::upE r
theorem Uy: ∀(l:List (Nat×AV)) (t:Nat),look (upE l) t=(look l t).map upA
 |[],t=>by simp[upE,look]
 |(k,x)::r,t=>by
  simp only[upE]
  rw[Ao,Ao,Uy r t]
  split<;>rfl
def upS:St->St
 |[]=>[]
 |(c,.cells cs)::r=>(2*c+1,.cells (upL cs))::upS r
 |(c,.grow sz es)::r=>(2*c+1,.grow sz es)::upS r
 |(c,.rights L)::r=>(2*c+1,.rights L)::upS r
 |(c,.loop l st pe ps asg bd n env)::r=>(2*c+1,.loop l st pe ps asg bd n (upE env))::upS r
 |(c,.mp ks xs)::r=>(2*c+1,.mp ks (upL xs))::upS r
def upB (B:Blk):Blk:=match B with
 |.cells cs=>.cells (upL cs)
 |.grow sz es=>.grow sz es
 |.rights L=>.rights L
 |.loop l st pe ps asg bd n env=>.loop l st pe ps asg bd n (upE env)
 |.mp ks xs=>.mp ks (upL xs)
mutual
def EZ:AV->AV
 |.t x=>.t x
 |.top=>.top
 |.ref c o=>bif Nat.beq (c % 2) 1 then .ref (c/2) o else .top
 |.eref c s k o=>bif Nat.beq (c % 2) 1 then .eref (c/2) s k o else .top
 |.mref c=>bif Nat.beq (c % 2) 1 then .mref (c/2)else .top
 |.row c s lo len=>bif Nat.beq (c % 2) 1 then .row (c/2) s lo len else .top
 |.iface t x=>.iface t (EZ x)
 |.func fn f c=>.func fn (Gq f) (Gq c)
 |.agg cs=>.agg (Gq cs)
 |.tuple cs=>.tuple (Gq cs)
def Gq:List AV->List AV
 |[]=>[]
 |x::r=>EZ x::Gq r
end
def Ub:List (Nat×AV)->List (Nat×AV)
 |[]=>[]
 |(t,x)::r=>(t,EZ x)::Ub r
theorem Ua: ∀(l:List (Nat×AV)) (t:Nat),look (Ub l) t=(look l t).map EZ
 |[],t=>by simp[Ub,look]
 |(k,x)::r,t=>by
  simp only[Ub]
  rw[Ao,Ao,Ua r t]
  split<;>rfl
def CC:St->St
 |[]=>[]
 |(c,.cells cs)::r=>bif Nat.beq (c % 2) 1 then(c/2,.cells (Gq cs))::CC r else CC r
 |(c,.grow sz es)::r=>bif Nat.beq (c % 2) 1 then(c/2,.grow sz es)::CC r else CC r
 |(c,.rights L)::r=>bif Nat.beq (c % 2) 1 then(c/2,.rights L)::CC r else CC r
 |(c,.loop l st pe ps asg bd n env)::r=>bif Nat.beq (c % 2) 1 then(c/2,.loop l st pe ps asg bd n (Ub env))::CC r else CC r
 |(c,.mp ks xs)::r=>bif Nat.beq (c % 2) 1 then(c/2,.mp ks (Gq xs))::CC r else CC r
def Abt (B:Blk):Blk:=match B with
 |.cells cs=>.cells (Gq cs)
 |.grow sz es=>.grow sz es
 |.rights L=>.rights L
 |.loop l st pe ps asg bd n env=>.loop l st pe ps asg bd n (Ub env)
 |.mp ks xs=>.mp ks (Gq xs)
theorem HE: ∀l,(upL l).length=l.length
 |[]=>by simp[upL]
 |x::r=>by simp[upL,HE r]
theorem HF: ∀(l:List AV) (i:Nat),(upL l)[i]?=(l[i]?).map upA
 |[],i=>by simp[upL]
 |x::r,0=>by simp[upL]
 |x::r,i+1=>by simp[upL,HF r i]
theorem FH: ∀l,(Gq l).length=l.length
 |[]=>by simp[Gq]
 |x::r=>by simp[Gq,FH r]
theorem FI: ∀(l:List AV) (i:Nat),(Gq l)[i]?=(l[i]?).map EZ
 |[],i=>by simp[Gq]
 |x::r,0=>by simp[Gq]
 |x::r,i+1=>by simp[Gq,FI r i]
theorem Kp: ∀(l:St) (c:Nat),look (upS l) c=if c % 2=1 then(look l (c/2)).map upB else none
 |[],c=>by simp[upS,look]
 |(k,B)::r,c=>by
  have ih:=Kp r c
  have e:upS ((k,B)::r)=(2*k+1,upB B)::upS r:=by cases B<;>rfl
  rw[e,Ao,Ao,ih]
  by_cases h:2*k+1=c
  ·have h1:c % 2=1:=by omega
   have h2:k=c/2:=by omega
   rw[if_pos h,if_pos h1,if_pos h2];rfl
  ·by_cases h1:c % 2=1
   ·have h2: ¬k=c/2:=by omega
    simp[h,h1,h2]
   ·simp[h,h1]
theorem Hi: ∀(l:St) (c:Nat),look (CC l) c=(look l (2*c+1)).map Abt
 |[],c=>by simp[CC,look]
 |(k,B)::r,c=>by
  have ih:=Hi r c
  rw[Ao]
  by_cases h:k % 2=1
  ·have e:CC ((k,B)::r)=(k/2,Abt B)::CC r:=by cases B<;>simp[CC,h,Abt]
   rw[e,Ao,ih]
   by_cases h2:k=2*c+1
   ·have:k/2=c:=by omega
    rw[if_pos h2,if_pos this];rfl
   ·have: ¬k/2=c:=by omega
    simp[h2,this]
  ·have hb:Nat.beq (k % 2) 1=false:=Cr h
   have e:CC ((k,B)::r)=CC r:=by cases B<;>simp[CC,hb]
   have h2: ¬k=2*c+1:=by omega
   rw[e,ih];simp[h2]
def G.up (g:G) (σ:St):G:={β:=fun b=>if b % 2=1 then g.β (b/2)else none,own:=g.own,oth:=g.oth,sp:=g.sp,bx:=fun b=>b % 2=1/\ ∃cs,look σ (b/2)=some (.cells cs)}
def G.down (g' g:G):G:={β:=fun b=>g'.β (2*b+1),own:=g'.own,oth:=g'.oth,sp:=g'.sp,bx:=g.bx,lo:=g.lo}
section
variable {w w':World} {g g':G} {σ σ':St}
theorem Qv {v:Value} {x:AV} (h:Rel w g v x):Rel w (g.up σ) v (upA x):=by
 have hβ: ∀c p,g.β c=some p->(g.up σ).β (2*c+1)=some p:=fun c p h=>by
  have h1:(2*c+1) % 2=1:=by omega
  have h2:(2*c+1)/2=c:=by omega
  simp[G.up,h1,h2,h]
 induction h with
 |t v x h=>simp only[upA];exact .t _ _ h
 |top v=>simp only[upA];exact .top v
 |ref c o blk h=>simp only[upA];exact .ref _ _ _ (hβ _ _ h)
 |eref c s k o blk h=>simp only[upA];exact .eref _ _ _ _ _ (hβ _ _ h)
 |mref c blk h=>simp only[upA];exact .mref _ _ (hβ _ _ h)
 |rowNil c s a ha h=>simp only[upA];exact .rowNil _ _ _ ha (hβ _ _ h)
 |row c s lo len blk o cap e0 n h hs ho hl hn=>simp only[upA];exact .row _ _ _ _ blk o cap e0 n (hβ _ _ h) hs ho hl hn
 |iface t v x _ ih=>simp only[upA];exact .iface _ _ _ ih
 |func fn v1 v2 x1 x2 h1 h2 _ _ i1 i2=>
  simp only[upA]
  refine .func fn v1 v2 _ _ (by rw[HE];exact h1) (by rw[HE];exact h2) (fun i v x hv hx=>?_) (fun i v x hv hx=>?_)
  ·rw[HF]at hx
   cases hg:x1[i]? with
   |none=>simp[hg]at hx
   |some y=>simp[hg]at hx;subst hx;exact i1 i v y hv hg
  ·rw[HF]at hx
   cases hg:x2[i]? with
   |none=>simp[hg]at hx
   |some y=>simp[hg]at hx;subst hx;exact i2 i v y hv hg
 |agg vs xs h _ ih=>
  simp only[upA]
  refine .agg vs _ (by rw[HE];exact h) fun i v x hv hx=>?_
  rw[HF]at hx
  cases hg:xs[i]? with
  |none=>simp[hg]at hx
  |some y=>simp[hg]at hx;subst hx;exact ih i v y hv hg
 |tuple vs xs h _ ih=>
  simp only[upA]
  refine .tuple vs _ (by rw[HE];exact h) fun i v x hv hx=>?_
  rw[HF]at hx
  cases hg:xs[i]? with
  |none=>simp[hg]at hx
  |some y=>simp[hg]at hx;subst hx;exact ih i v y hv hg
theorem N7 {v:Value} {x:AV} (h:Rel w g' v x):Rel w (g'.down g) v (EZ x):=by
 have hβ: ∀c p,c % 2=1->g'.β c=some p->(g'.down g).β (c/2)=some p:=fun c p h1 h=>by
  have h2:2*(c/2)+1=c:=by omega
  simp[G.down,h2,h]
 induction h with
 |t v x h=>simp only[EZ];exact .t _ _ h
 |top v=>simp only[EZ];exact .top v
 |ref c o blk h=>
  simp only[EZ]
  by_cases e:c % 2=1
  ·rw[e];exact .ref _ _ _ (hβ _ _ e h)
  ·rw[Cr e];exact .top _
 |eref c s k o blk h=>
  simp only[EZ]
  by_cases e:c % 2=1
  ·rw[e];exact .eref _ _ _ _ _ (hβ _ _ e h)
  ·rw[Cr e];exact .top _
 |mref c blk h=>
  simp only[EZ]
  by_cases e:c % 2=1
  ·rw[e];exact .mref _ _ (hβ _ _ e h)
  ·rw[Cr e];exact .top _
 |rowNil c s a ha h=>
  simp only[EZ]
  by_cases e:c % 2=1
  ·rw[e];exact .rowNil _ _ _ ha (hβ _ _ e h)
  ·rw[Cr e];exact .top _
 |row c s lo len blk o cap e0 n h hs ho hl hn=>
  simp only[EZ]
  by_cases e:c % 2=1
  ·rw[e];exact .row _ _ _ _ blk o cap e0 n (hβ _ _ e h) hs ho hl hn
  ·rw[Cr e];exact .top _
 |iface t v x _ ih=>simp only[EZ];exact .iface _ _ _ ih
 |func fn v1 v2 x1 x2 h1 h2 _ _ i1 i2=>
  simp only[EZ]
  refine .func fn v1 v2 _ _ (by rw[FH];exact h1) (by rw[FH];exact h2) (fun i v x hv hx=>?_) (fun i v x hv hx=>?_)
  ·rw[FI]at hx
   cases hg:x1[i]? with
   |none=>simp[hg]at hx
   |some y=>simp[hg]at hx;subst hx;exact i1 i v y hv hg
  ·rw[FI]at hx
   cases hg:x2[i]? with
   |none=>simp[hg]at hx
   |some y=>simp[hg]at hx;subst hx;exact i2 i v y hv hg
 |agg vs xs h _ ih=>
  simp only[EZ]
  refine .agg vs _ (by rw[FH];exact h) fun i v x hv hx=>?_
  rw[FI]at hx
  cases hg:xs[i]? with
  |none=>simp[hg]at hx
  |some y=>simp[hg]at hx;subst hx;exact ih i v y hv hg
 |tuple vs xs h _ ih=>
  simp only[EZ]
  refine .tuple vs _ (by rw[FH];exact h) fun i v x hv hx=>?_
  rw[FI]at hx
  cases hg:xs[i]? with
  |none=>simp[hg]at hx
  |some y=>simp[hg]at hx;subst hx;exact ih i v y hv hg
theorem Yt (hi:Inv w g σ):Inv w (g.up σ) (upS σ):=by
 refine⟨?_,?_,?_,hi.lt,?_,hi.dis,hi.im,Nat.zero_le _,?_⟩
 ·intro b B hB
  rw[Kp]at hB
  split at hB
  ·rename_i hodd
   cases hl:look σ (b/2)with
   |none=>simp[hl]at hB
   |some C=>
    simp[hl]at hB;subst hB
    have hok:=hi.ok _ C hl
    have hβ: ∀p,g.β (b/2)=some p->(g.up σ).β b=some p:=fun p h=>by simp[G.up,hodd,h]
    cases C with
    |cells cs=>
     obtain⟨blk,vs,e,h1,h2,h3,h4,h5⟩:=hok
     refine⟨blk,vs,e,hβ _ h1,h2,h3,by rw[HE];exact h4,fun i v x hv hx=>?_⟩
     rw[HF]at hx
     cases hg:cs[i]? with
     |none=>simp[hg]at hx
     |some y=>simp[hg]at hx;subst hx;exact Qv (h5 i v y hv hg)
    |grow sz es=>
     obtain⟨h0,h⟩:=hok
     refine⟨h0,?_⟩
     rcases h with⟨h1,h2⟩|⟨blk,vs,e,h1,h2,h3,h4,h5⟩
     ·exact .inl ⟨hβ _ h1,h2⟩
     ·exact .inr ⟨blk,vs,e,hβ _ h1,h2,h3,h4,h5⟩
    |rights L=>exact hβ _ hok
    |loop l st pe ps asg bd n env=>
     obtain⟨r,h1,h2,h3,h4,h5,h6⟩:=hok
     refine⟨r,hβ _ h1,h2,h3,h4,h5,fun t x ht=>?_⟩
     rw[Uy]at ht
     cases hg:look env t with
     |none=>simp[hg]at ht
     |some y=>simp[hg]at ht;subst ht;exact Qv (h6 t y hg)
    |mp ks ys=>
     obtain⟨blk,fs,clk,h1,h2,h3,h4,h5,h6,h7⟩:=hok
     refine⟨blk,fs,clk,hβ _ h1,h2,h3,h4,by rw[HE];exact h5,h6,fun i e x he hx=>?_⟩
     rw[HF]at hx
     cases hg:ys[i]? with
     |none=>simp[hg]at hx
     |some y=>simp[hg]at hx;subst hx;exact Qv (h7 i e y he hg)
  ·simp at hB
 ·intro b
  rw[Kp]
  by_cases h:b % 2=1
  ·simp only[h,if_true,G.up];rw[<-hi.dom];cases look σ (b/2)<;>rfl
  ·simp[h,G.up]
 ·intro b b' blk h1 h2
  simp only[G.up]at h1 h2
  split at h1
  ·split at h2
   ·have:=hi.inj _ _ _ h1 h2;omega
   ·cases h2
  ·cases h1
 ·rintro b ⟨h1,cs,h2⟩
  exact⟨h1,upL cs,by rw[Kp,if_pos h1,h2];rfl⟩
 ·have hσ: ∀b L,look (upS σ) b=some (.rights L)->b % 2=1/\look σ (b/2)=some (.rights L):=by
   intro b L hL
   rw[Kp]at hL
   split at hL
   ·rename_i hodd
    refine⟨hodd,?_⟩
    cases hl:look σ (b/2)with
    |none=>simp[hl]at hL
    |some D=>
     simp only[hl,Option.map_some,Option.some.injEq]at hL
     cases D<;>simp[upB]at hL
     subst hL;rfl
   ·cases hL
  refine⟨hi.sx.lt,fun c blk h=>?_,fun b b' L L' blk e e' h1 h2 h3 h4=>?_,fun b L hL=>hi.sx.ok _ L (hσ b L hL).2⟩
  ·simp only[G.up]at h
   split at h
   ·exact hi.sx.bs _ blk h
   ·cases h
  ·have k1:=hσ _ _ h1
   have k2:=hσ _ _ h2
   have:=hi.sx.one _ _ _ _ _ _ _ k1.2 k2.2 h3 h4
   omega
theorem XB (hi:Inv w g σ) (hi':Inv w' g' σ') (hx:Ext w (g.up σ) w' g'):Inv w' (g'.down g) (CC σ'):=by
 refine⟨?_,?_,?_,hi'.lt,?_,hi'.dis,hi'.im,Nat.le_trans hi.lo hx.size,?_⟩
 ·intro b B hB
  rw[Hi]at hB
  cases hl:look σ' (2*b+1)with
  |none=>simp[hl]at hB
  |some C=>
   simp[hl]at hB;subst hB
   have hok:=hi'.ok _ C hl
   cases C with
   |cells cs=>
    obtain⟨blk,vs,e,h1,h2,h3,h4,h5⟩:=hok
    refine⟨blk,vs,e,h1,h2,h3,by rw[FH];exact h4,fun i v x hv hx=>?_⟩
    rw[FI]at hx
    cases hg:cs[i]? with
    |none=>simp[hg]at hx
    |some y=>simp[hg]at hx;subst hx;exact N7 (h5 i v y hv hg)
   |grow sz es=>
    obtain⟨h0,h⟩:=hok
    refine⟨h0,?_⟩
    rcases h with⟨h1,h2⟩|⟨blk,vs,e,h1,h2,h3,h4,h5⟩
    ·exact .inl ⟨h1,h2⟩
    ·exact .inr ⟨blk,vs,e,h1,h2,h3,h4,h5⟩
   |rights L=>exact hok
   |loop l st pe ps asg bd n env=>
    obtain⟨r,h1,h2,h3,h4,h5,h6⟩:=hok
    refine⟨r,h1,h2,h3,h4,h5,fun t x ht=>?_⟩
    rw[Ua]at ht
    cases hg:look env t with
    |none=>simp[hg]at ht
    |some y=>simp[hg]at ht;subst ht;exact N7 (h6 t y hg)
   |mp ks ys=>
    obtain⟨blk,fs,clk,h1,h2,h3,h4,h5,h6,h7⟩:=hok
    refine⟨blk,fs,clk,h1,h2,h3,h4,by rw[FH];exact h5,h6,fun i e x he hx=>?_⟩
    rw[FI]at hx
    cases hg:ys[i]? with
    |none=>simp[hg]at hx
    |some y=>simp[hg]at hx;subst hx;exact N7 (h7 i e y he hg)
 ·intro b
  rw[Hi]
  have:=hi'.dom (2*b+1)
  simp only[G.down];rw[<-this];cases look σ' (2*b+1)<;>rfl
 ·intro b b' blk h1 h2
  have:=hi'.inj _ _ _ h1 h2;omega
 ·intro b hb
  obtain⟨h1,cs,h2⟩:=hi.bx b hb
  have h3:(2*b+1) % 2=1:=by omega
  have h4:(2*b+1)/2=b:=by omega
  have hup:(g.up σ).bx (2*b+1):=⟨h3,cs,by rw[h4];exact h2⟩
  obtain⟨_,cs',h5⟩:=hi'.bx _ (hx.bx _ hup).1
  exact⟨h1,Gq cs',by rw[Hi,h5];rfl⟩
 ·have hσ: ∀b L,look (CC σ') b=some (.rights L)->look σ' (2*b+1)=some (.rights L):=by
   intro b L hL
   rw[Hi]at hL
   cases hl:look σ' (2*b+1)with
   |none=>simp[hl]at hL
   |some D=>
    simp only[hl,Option.map_some,Option.some.injEq]at hL
    cases D<;>simp[Abt]at hL
    subst hL;rfl
  refine⟨hi'.sx.lt,fun c blk h=>hi'.sx.bs _ blk h,fun b b' L L' blk e e' h1 h2 h3 h4=>?_,fun b L hL=>hi'.sx.ok _ L (hσ b L hL)⟩
  have:=hi'.sx.one _ _ _ _ _ _ _ (hσ _ _ h1) (hσ _ _ h2) h3 h4
  omega
theorem XC (hi:Inv w g σ) (hx:Ext w (g.up σ) w' g'):Ext w g w' (g'.down g):=by
 refine⟨hx.size,hx.keep,hx.own,hx.oth,hx.shape,fun b hb=>⟨hb,?_⟩,⟨Y,hx.lo.2⟩,hx.sp⟩
 obtain⟨h1,cs,h2⟩:=hi.bx b hb
 have h3:(2*b+1) % 2=1:=by omega
 have h4:(2*b+1)/2=b:=by omega
 have hup:(g.up σ).bx (2*b+1):=⟨h3,cs,by rw[h4];exact h2⟩
 have:=(hx.bx _ hup).2
 simp only[G.down,this,G.up,h3,if_true,h4]
mutual
def L3 (σ:St):AV->Bool
 |.t _=>true
 |.top=>true
 |.ref c _=>match look σ c with
  |some (.cells _)=>true
  |_=>false
 |.eref _ _ _ _=>false
 |.mref _=>false
 |.row _ _ _ _=>false
 |.iface _ x=>L3 σ x
 |.func _ f c=>ZJ σ f&&ZJ σ c
 |.agg cs=>ZJ σ cs
 |.tuple cs=>ZJ σ cs
def ZJ (σ:St):List AV->Bool
 |[]=>true
 |x::r=>L3 σ x&&ZJ σ r
end
theorem K7 {σ:St}: ∀{l:List AV},ZJ σ l=true-> ∀(i:Nat) x,l[i]?=some x->L3 σ x=true
 |[],_,i,x,h=>by simp at h
 |y::r,hf,i,x,h=>by
  simp only[ZJ,Bool.and_eq_true]at hf
  cases i with
  |zero=>simp at h;subst h;exact hf.1
  |succ i=>simp at h;exact K7 hf.2 i x h
def PC (σ:St):Env->Env
 |[]=>[]
 |(t,x)::r=>(t,bif L3 σ x then x else .top)::PC σ r
theorem Ane (hx:Ext w (g.up σ) w' g') {v:Value} {x:AV} (h:Rel w g v x):L3 σ x=true->Rel w' (g'.down g) v x:=by
 induction h with
 |t v x h=>exact fun _=>.t v x (h.mono hx.keeps)
 |top v=>exact fun _=>.top v
 |ref b off blk h=>
  intro hh
  simp only[L3]at hh
  split at hh
  ·rename_i cs hc
   have h3:(2*b+1) % 2=1:=by omega
   have h4:(2*b+1)/2=b:=by omega
   have hup:(g.up σ).bx (2*b+1):=⟨h3,cs,by rw[h4];exact hc⟩
   have:=(hx.bx _ hup).2
   refine .ref _ _ blk ?_
   simp only[G.down,this,G.up,h3,if_true,h4];exact h
  ·simp at hh
 |eref b sz k off blk h=>intro hh;simp[L3]at hh
 |mref b blk h=>intro hh;simp[L3]at hh
 |rowNil b sz a ha h=>intro hh;simp[L3]at hh
 |row b sz lo len blk o cap e n h hs' ho hl hn=>intro hh;simp[L3]at hh
 |iface t v x _ ih=>intro hh;simp only[L3]at hh;exact .iface t v x (ih hh)
 |func fn v1 v2 x1 x2 h1 h2 _ _ i1 i2=>
  intro hh;simp only[L3,Bool.and_eq_true]at hh
  exact .func fn v1 v2 x1 x2 h1 h2 (fun i v x a b=>i1 i v x a b (K7 hh.1 i x b)) (fun i v x a b=>i2 i v x a b (K7 hh.2 i x b))
 |agg vs xs h _ ih=>intro hh;simp only[L3]at hh;exact .agg vs xs h (fun i v x a b=>ih i v x a b (K7 hh i x b))
 |tuple vs xs h _ ih=>intro hh;simp only[L3]at hh;exact .tuple vs xs h (fun i v x a b=>ih i v x a b (K7 hh i x b))
theorem XR (σ:St): ∀(l:Env) (t:Nat),look (PC σ l) t=(look l t).map fun x=>bif L3 σ x then x else .top
 |[],t=>by simp[PC,look]
 |(k,x)::r,t=>by
  simp only[PC]
  rw[Ao,Ao,XR σ r t]
  by_cases h:k=t<;>simp[h]
theorem Abz (hx:Ext w (g.up σ) w' g') {a:Act} {env:Env} (he:AK w g a env):AK w' (g'.down g) a (PC σ env):=by
 intro t x h
 rw[XR]at h
 cases hl:look env t with
 |none=>simp[hl]at h
 |some y=>
  simp only[hl,Option.map_some,Option.some.injEq]at h
  have hr:=he t y hl
  cases hb:L3 σ y with
  |true=>rw[hb]at h;simp at h;subst h;exact Ane hx hr hb
  |false=>rw[hb]at h;simp at h;subst h;exact .top _
end
end Go.Am
namespace Go.Am
inductive Rc where
 |self
 |fld (off n:Nat)
structure Conf extends Cfg where
 inv:Nat->String->Option (Nat×Rc)
 ownR:List Nat
 sp:Nat->List AV->St->Option (AV×St)
mutual
def shA (k:Nat):AV->AV
 |.t x=>.t x
 |.top=>.top
 |.ref c o=>.ref (c+k) o
 |.eref c s i o=>.eref (c+k) s i o
 |.mref c=>.mref (c+k)
 |.row c s lo len=>.row (c+k) s lo len
 |.iface t x=>.iface t (shA k x)
 |.func fn f c=>.func fn (shL k f) (shL k c)
 |.agg cs=>.agg (shL k cs)
 |.tuple cs=>.tuple (shL k cs)
def shL (k:Nat):List AV->List AV
 |[]=>[]
 |x::r=>shA k x::shL k r
end
mutual
def inA (σ:St):AV->Bool
 |.t _=>true
 |.top=>true
 |.ref _ _=>false
 |.eref c _ _ _=>(look σ c).isSome
 |.mref _=>false
 |.row c _ _ _=>(look σ c).isSome
 |.iface _ x=>inA σ x
 |.func _ f c=>inL σ f&&inL σ c
 |.agg cs=>inL σ cs
 |.tuple cs=>inL σ cs
def inL (σ:St):List AV->Bool
 |[]=>true
 |x::r=>inA σ x&&inL σ r
end
def JC (r:AV) (σ:St):St->St
 |[]=>[]
 |(b,_)::l=>(match r.has b with
  |true=>(match look σ b with
   |some (.grow sz es)=>(b,.grow sz es)::JC r σ l
   |_=>JC r σ l)
  |false=>JC r σ l)
def shS (k:Nat):St->St
 |[]=>[]
 |(b,B)::l=>(b+k,B)::shS k l
def OA (σ:St):St->Bool
 |[]=>true
 |(b,_)::l=>(look σ b).isNone&&OA σ l
def Kz (dst:Option Nat) (r:AV) (σ2:St) (env:Env) (σ:St):Option (AV×Env×St):=
 match r.free with
 |true=>some (r,env,σ)
 |false=>match dst with
  |some d=>match inA (JC r σ2 σ2) r&&OA σ (shS (2000*(d+1)) (JC r σ2 σ2))with
   |true=>some (shA (2000*(d+1)) r,env,shS (2000*(d+1)) (JC r σ2 σ2)++σ)
   |false=>none
  |none=>none
def rcV (rc:Rc) (x:T):Option AV:=
 match rc with
 |.self=>some (.t x)
 |.fld off n=>match x with
  |.agg ts=>match ED n (ts.drop off)with
   |some ys=>some (.agg (Ah ys))
   |none=>none
  |_=>none
def C6 (c:Conf) (env:Env) (cl:Call):Option (Nat×List AV):=
 match cl.callee with
 |.value fo=>match ev env fo with
  |some (.t (.func (.func f) first cap))=>match evL env cl.args.toList with
   |some as=>some (f,Ah first++(as++Ah cap))
   |none=>none
  |some (.func (.func f) first cap)=>match evL env cl.args.toList with
   |some as=>some (f,first++(as++cap))
   |none=>none
  |_=>none
 |.invoke ro name=>match ev env ro with
  |some (.t (.iface t x))=>match c.inv t name with
   |some (f,rc)=>match rcV rc x with
    |some y=>match evL env cl.args.toList with
     |some as=>some (f,y::as)
     |none=>none
    |none=>none
   |none=>none
  |some (.iface t x)=>match c.inv t name with
   |some (f,rc)=>match rc with
    |.self=>match evL env cl.args.toList with
     |some as=>some (f,x::as)
     |none=>none
    |.fld _ _=>none
   |none=>none
  |_=>none
 |.builtin _=>none
def DQ:St->List AV->Env->St->List AV×Env×St
 |[],as,env,σ=>(as,env,σ)
 |(b,_)::r,as,env,σ=>match look σ b with
  |some (.grow sz es)=>match Ox b as with
   |true=>DQ r (FF b sz es as) (I9 b sz es env) (Gf b sz es σ)
   |false=>DQ r as env σ
  |_=>DQ r as env σ
def Lt (c:Conf) (cf:Nat->List AV->St->Option (AV×St)) (dst:Option Nat) (cl:Call) (env:Env) (σ:St):Option (AV×Env×St):=
 match C6 c env cl with
 |some (f,as)=>match FC f c.own with
  |true=>match cf f (upL as) (upS σ)with
   |some (r,σ2)=>some (EZ r,PC σ env,CC σ2)
   |none=>none
  |false=>match DQ σ as env σ with
   |(as',env',σ')=>match D7 as' with
    |true=>match cf f as' []with
     |some (r,σ2)=>Kz dst r σ2 env' σ'
     |none=>none
    |false=>match cf f (upL as) (upS σ)with
     |some (r,σ2)=>some (EZ r,PC σ env,CC σ2)
     |none=>none
 |none=>none
def Jj (o:Oper) (env:Env) (σ:St):Env×St:=
 match o.op with
 |.buildSlice _ _ parts=>(match evP env parts.toList with
  |some ps=>(DQ σ (ps.map (·.2)) env σ).2
  |none=>(env,σ))
 |.store _ p x=>(match ev env p with
  |some (.eref _ _ _ _)=>(match ev env x with
   |some y=>(DQ σ [y] env σ).2
   |none=>(env,σ))
  |_=>(env,σ))
 |_=>(env,σ)
def Dx (c:Conf) (cf:Nat->List AV->St->Option (AV×St)) (o:Oper) (env:Env) (σ:St):Option (AV×Env×St):=
 match o.op with
 |.alloc _=>F1 c.toCfg o env σ
 |.box _ _=>F1 c.toCfg o env σ
 |.build _ _=>F1 c.toCfg o env σ
 |.buildSlice _ _ _=>(match Jj o env σ with
  |(env,σ)=>F1 c.toCfg o env σ)
 |.load _ _=>F1 c.toCfg o env σ
 |.makeSlice _ _ _=>F1 c.toCfg o env σ
 |.makeMap _ _=>WG c.toCfg o env σ
 |.insert _ _ _ _=>WG c.toCfg o env σ
 |.mapUpdate _ _ _ _=>WG c.toCfg o env σ
 |.lookup _ _ _ _=>WG c.toCfg o env σ
 |.store _ _ _=>(match Jj o env σ with
  |(env,σ)=>F1 c.toCfg o env σ)
 |.call cl=>match cl.callee with
  |.builtin .append=>F1 c.toCfg o env σ
  |.builtin .len=>(match Ce c.te o.op env with
   |some x=>some (x,env,σ)
   |none=>WG c.toCfg o env σ)
  |.builtin .delete=>WG c.toCfg o env σ
  |.builtin _=>match Ce c.te o.op env with
   |some x=>some (x,env,σ)
   |none=>none
  |.value _=>Lt c cf o.dst cl env σ
  |.invoke _ _=>Lt c cf o.dst cl env σ
 |_=>match Ce c.te o.op env with
  |some x=>some (x,env,σ)
  |none=>none
def IM {R:Type} (ops:Array Oper) (o:Oper) (env:Env) (kT kF:Env->Option R):Option R:=
 match o.guard with
 |none=>kT env
 |some (j,want)=>match ops[j]? with
  |some oj=>match oj.dst with
   |some d=>match look env d with
    |some (.t (.bool b))=>(match b with
     |true=>(match want with
      |true=>kT ((d,.t (.bool true))::env)
      |false=>kF ((d,.t (.bool true))::env))
     |false=>(match want with
      |true=>kF ((d,.t (.bool false))::env)
      |false=>kT ((d,.t (.bool false))::env)))
    |some (.t .undef)=>kF env
    |_=>none
   |none=>none
  |none=>none
def B4 (n:Nat) (dst:Option Nat) (x:AV) (env:Env):Option Env:=
 match dst with
 |some d=>match Nat.blt d n with
  |true=>some ((d,x)::env)
  |false=>none
 |none=>some env
def LR {R:Type} (c:Conf) (cf:Nat->List AV->St->Option (AV×St)) (n:Nat) (ops:Array Oper):List Oper->Env->St->(Env->St->Option R)->Option R
 |[],env,σ,k=>k env σ
 |o::rest,env,σ,k=>IM ops o env (fun env=>match Dx c cf o env σ with
   |some (x,env',σ')=>match B4 n o.dst x env' with
    |some env2=>LR c cf n ops rest env2 σ' k
    |none=>none
   |none=>none) (fun env=>match B4 n o.dst (.t .undef) env with
   |some env2=>LR c cf n ops rest env2 σ k
   |none=>none)
def Zl {R:Type} (step:Env->St->(Exit->Env->St->Option R)->Option R):Nat->Env->St->(Exit->Env->St->Option R)->Option R
 |0,_,_,_=>none
 |n+1,env,σ,k=>step env σ (fun ex env σ=>match ex with
  |.normal=>Zl step n env σ k
  |ex=>k ex env σ)
def LF:Nat:=4611686018427387904
def FG:Nat->List AV->Env
 |_,[]=>[]
 |i,x::r=>(i,x)::FG (i+1) r
def Mk:St->Env->St->Env×St
 |[],env,σ=>(env,σ)
 |(b,_)::r,env,σ=>match Nat.beq (b % 2) 0 with
  |true=>match look σ b with
   |some (.grow sz es)=>Mk r (I9 b sz es env) (Gf b sz es σ)
   |_=>Mk r env σ
  |false=>Mk r env σ
def Aye (te:TE) (env:Env) (σ:St):ResultVar->Option AV
 |.tmp t=>look env t
 |.cell t ty=>match look env t with
  |some p=>match p with
   |.ref _ _=>I4 te ty p σ
   |_=>none
  |none=>none
def Ac0 (te:TE) (env:Env) (σ:St):List ResultVar->Option (List AV)
 |[]=>some []
 |r::rs=>match Aye te env σ r with
  |some x=>match Ac0 te env σ rs with
   |some xs=>some (x::xs)
   |none=>none
  |none=>none
def JY (te:TE) (own:Bool) (rs:List ResultVar) (env:Env) (σ:St):Option (AV×St):=
 match (match own with
  |true=>(env,σ)
  |false=>Mk σ env σ)with
 |(env,σ)=>match Ac0 te env σ rs with
  |some [x]=>some (x,σ)
  |some xs=>some (.tuple xs,σ)
  |none=>none
end Go.Am
namespace Go.Am
def IL (P:Program) (t:Nat) (name:String) (f:Nat):Rc->Prop
 |.self=> ∀w v,(method (P.types.size+Made.depth) t v name).run P w=.ok (f,v) w
 |.fld off n=> ∀w cs,(method (P.types.size+Made.depth) t (.agg cs) name).run P w=.ok (f,.agg (cs.extract off (off+n))) w
structure ProgOk (P:Program) (c:Conf):Prop where
 te:CX P c.te
 inv: ∀t name f rc,c.inv t name=some (f,rc)->IL P t name f rc
 num: ∀(f:Nat) fn,P.funcs[f]?=some fn->(fn.name== "runtime.NumGoroutine")=false
 mix:P.follows .mixedOrders=true
 sp: ∀f as σ r σ',c.sp f as σ=some (r,σ')->(∃fn,P.funcs[f]?=some fn/\fn.body.isSome=true)/\ ∀(vs:List Value) (w:World) (g:G),Bt w g vs as->Inv w g σ->
  Calls P f vs.toArray w fun e w'=> ∃v g',e=.returned v/\Ext w g w' g'/\Rel w' g' v r/\Inv w' g' σ'
def Akp (P:Program) (f:Nat) (as:List AV) (σ:St) (r:AV) (σ':St):Prop:=
 ∀(vs:List Value) (w:World) (g:G),Bt w g vs as->Inv w g σ->
  Calls P f vs.toArray w fun e w'=> ∃v g',e=.returned v/\Ext w g w' g'/\Rel w' g' v r/\Inv w' g' σ'
def EB (P:Program) (cf:Nat->List AV->St->Option (AV×St)):Prop:=
 ∀f as σ r σ',cf f as σ=some (r,σ')->(∃fn,P.funcs[f]?=some fn/\fn.body.isSome=true)/\Akp P f as σ r σ'
section
variable {P:Program} {c:Conf} {cf:Nat->List AV->St->Option (AV×St)} {w:World} {g:G} {σ:St}
theorem H7 (hp:ProgOk P c) {f:Nat} {fn:Func} (hf:P.funcs[f]?=some fn) (hb:fn.body.isSome=true) (args:Array Value):(callFunc f args).run P w=.ok (.enter f args) w:=by
 have hn:=hp.num f fn hf
 have hbn:fn.body.isNone=false:=by cases h:fn.body<;>simp_all
 simp only[callFunc,program,Sem.run_bind,Sem.run,Result.andThen_ok,hf,hn,hbn]
 rfl
theorem Bt.append {v1 v2:List Value} {x1 x2:List AV} (h1:Bt w g v1 x1) (h2:Bt w g v2 x2):Bt w g (v1++v2) (x1++x2):=by
 refine⟨by simp[h1.1,h2.1],fun i v x hv hx=>?_⟩
 by_cases h:i<v1.length
 ·rw[List.getElem?_append_left h]at hv
  rw[List.getElem?_append_left (by rw[<-h1.1];exact h)]at hx
  exact h1.2 i v x hv hx
 ·rw[List.getElem?_append_right Aa]at hv
  rw[List.getElem?_append_right (by rw[<-h1.1];omega),<-h1.1]at hx
  exact h2.2 _ v x hv hx
theorem A1v {v:Value} {vs:List Value} {x:AV} {xs:List AV} (h1:Rel w g v x) (h2:Bt w g vs xs):Bt w g (v::vs) (x::xs):=by
 refine⟨by simp[h2.1],fun i u y hu hy=>?_⟩
 cases i with
 |zero=>simp at hu hy;subst hu;subst hy;exact h1
 |succ i=>simp at hu hy;exact h2.2 i u y hu hy
theorem C5 (hp:ProgOk P c) {a:Act} {env:Env} (he:AK w g a env) {cl:Call} {f:Nat} {as:List AV} (h:C6 c env cl=some (f,as)) {o:Oper} (ho:o.op=.call cl)
  {fn:Func} (hf:P.funcs[f]?=some fn) (hb:fn.body.isSome=true):
  ∃vs:List Value,(execOp a.eval o).run P w=.ok (.enter f vs.toArray) w/\Bt w g vs as:=by
 unfold C6 at h
 have hargs: ∀as',evL env cl.args.toList=some as'->Bt w g (cl.args.toList.map a.eval) as':=fun as' h'=>by
  obtain⟨h1,h2⟩:=N2 he h'
  exact⟨by simpa using h1,h2⟩
 have hmap:(cl.args.toList.map a.eval).toArray=cl.args.map a.eval:=by apply Array.ext';simp
 split at h
 ·rename_i fo hc
  split at h
  ·rename_i f' first cap hfo
   split at h
   ·rename_i as' has
    simp at h
    obtain⟨rfl,rfl⟩:=h
    have hr:=Aw (AG he hfo)
    generalize hv:a.eval fo=v at hr
    cases hr with
    |func _ v1 v2 _ _ h1 h2 r1 r2=>
     refine⟨v1++(cl.args.toList.map a.eval++v2),?_,(GR h1 r1).append ((hargs _ has).append (GR h2 r2))⟩
     simp only[execOp,ho,Sem.run_bind,resolve,hc,hv,Deferred.ofValue,Sem.run_pure,Result.andThen_ok,invoke]
     rw[H7 hp hf hb]
     congr 2
     rw[<-hmap];apply Array.ext';simp
   ·simp at h
  ·rename_i f' first cap hfo
   split at h
   ·rename_i as' has
    simp at h
    obtain⟨rfl,rfl⟩:=h
    have hr:=AG he hfo
    generalize hv:a.eval fo=v at hr
    cases hr with
    |func _ v1 v2 _ _ h1 h2 r1 r2=>
     refine⟨v1++(cl.args.toList.map a.eval++v2),?_,Bt.append ⟨h1,r1⟩ ((hargs _ has).append ⟨h2,r2⟩)⟩
     simp only[execOp,ho,Sem.run_bind,resolve,hc,hv,Deferred.ofValue,Sem.run_pure,Result.andThen_ok,invoke]
     rw[H7 hp hf hb]
     congr 2
     rw[<-hmap];apply Array.ext';simp
   ·simp at h
  ·simp at h
 ·rename_i ro name hc
  split at h
  ·rename_i t x hro
   split at h
   ·rename_i f' rc hinv
    split at h
    ·rename_i y hy
     split at h
     ·rename_i as' has
      simp at h
      obtain⟨rfl,rfl⟩:=h
      have hr:=Aw (AG he hro)
      generalize hv:a.eval ro=v at hr
      cases hr with
      |iface _ u _ hu=>
       have hm: ∃u',(method (P.types.size+Made.depth) t u name).run P w=.ok (f',u') w/\Rel w g u' y:=by
        have hio:=hp.inv _ _ _ _ hinv
        unfold rcV at hy
        split at hy
        ·simp at hy;subst hy
         exact⟨u,hio w u,.t _ _ hu⟩
        ·rename_i off n
         split at hy
         ·rename_i ts
          split at hy
          ·rename_i ys hys
           simp at hy;subst hy
           cases hu with
           |agg vs _ hl hr=>
            have hlr:Bt w g vs (Ah ts):=GR hl hr
            obtain⟨e1,e2⟩:=Im hys
            refine⟨_,hio w vs.toArray,?_⟩
            rw[List.extract_toArray,List.extract_eq_take_drop,show off+n-off=n by omega]
            refine .agg _ _ ?_ ?_
            ·rw[AU];subst e1;simp only[List.length_take,List.length_drop]at e2⊢;omega
            ·intro i v x hv' hx
             rw[BV]at hx
             subst e1
             rw[List.getElem?_take]at hv' hx
             split at hv'
             ·rename_i hi
              rw[if_pos hi,List.getElem?_drop]at hx
              rw[List.getElem?_drop]at hv'
              cases ht:ts[off+i]? with
              |none=>simp[ht]at hx
              |some z=>simp[ht]at hx;subst hx;exact .t _ _ (hr _ v z hv' ht)
             ·simp at hv'
          ·simp at hy
         ·simp at hy
       obtain⟨u',hm1,hm2⟩:=hm
       refine⟨u'::cl.args.toList.map a.eval,?_,A1v hm2 (hargs _ has)⟩
       simp only[execOp,ho,Sem.run_bind,resolve,hc,hv,Sem.run_pure,Result.andThen_ok,invoke]
       have e1:(#[Value.iface t u]++cl.args.map a.eval)[0]?=some (Value.iface t u):=by rw[Array.getElem?_append_left Ac];rfl
       have e2:(#[Value.iface t u]++cl.args.map a.eval).extract 1 (#[Value.iface t u]++cl.args.map a.eval).size=cl.args.map a.eval:=by
        apply Array.ext';simp only[Array.toList_extract,Array.toList_append];simp
        exact List.take_of_length_le Ac
       simp only[e1,e2,callMethod,Sem.run_bind,program,Sem.run,Result.andThen_ok,hm1]
       rw[H7 hp hf hb]
       congr 2
       rw[<-hmap];apply Array.ext';simp
     ·simp at h
    ·simp at h
   ·simp at h
  ·rename_i t x hro
   split at h
   ·rename_i f' rc hinv
    split at h
    ·split at h
     ·rename_i as' has
      simp at h
      obtain⟨rfl,rfl⟩:=h
      have hr:=AG he hro
      generalize hv:a.eval ro=v at hr
      cases hr with
      |iface _ u _ hu=>
       have hm1:=hp.inv _ _ _ _ hinv w u
       refine⟨u::cl.args.toList.map a.eval,?_,A1v hu (hargs _ has)⟩
       simp only[execOp,ho,Sem.run_bind,resolve,hc,hv,Sem.run_pure,Result.andThen_ok,invoke]
       have e1:(#[Value.iface t u]++cl.args.map a.eval)[0]?=some (Value.iface t u):=by rw[Array.getElem?_append_left Ac];rfl
       have e2:(#[Value.iface t u]++cl.args.map a.eval).extract 1 (#[Value.iface t u]++cl.args.map a.eval).size=cl.args.map a.eval:=by
        apply Array.ext';simp only[Array.toList_extract,Array.toList_append];simp
        exact List.take_of_length_le Ac
       simp only[e1,e2,callMethod,Sem.run_bind,program,Sem.run,Result.andThen_ok,hm1]
       rw[H7 hp hf hb]
       congr 2
       rw[<-hmap];apply Array.ext';simp
     ·simp at h
    ·simp at h
   ·simp at h
  ·simp at h
 ·simp at h
theorem CQ: ∀(l:St) {as as':List AV} {env env':Env} {σ σ':St} {g:G},DQ l as env σ=(as',env',σ')->Inv w g σ-> ∀{vs:List Value} {a:Act},Bt w g vs as->AK w g a env->
  ∃g',Ext w g w g'/\Inv w g' σ'/\Bt w g' vs as'/\AK w g' a env'
 |[],as,as',env,env',σ,σ',g,h,hi,vs,a,hr,he=>by
  simp[DQ]at h
  obtain⟨rfl,rfl,rfl⟩:=h
  exact⟨g,A1t _ _,hi,hr,he⟩
 |(b,B)::r,as,as',env,env',σ,σ',g,h,hi,vs,a,hr,he=>by
  simp only[DQ]at h
  split at h
  ·rename_i sz es hb
   split at h
   ·obtain⟨k1,k2,k3⟩:=freeze hi hb
    obtain⟨g',m1,m2⟩:=CQ r h k2 (vs:=vs) (a:=a) ⟨by rw[Gg];exact hr.1,fun i v x hv hx=>by
     rw[Gh]at hx
     cases hg:as[i]? with
     |none=>simp[hg]at hx
     |some y=>simp[hg]at hx;subst hx;exact k3 _ _ (hr.2 i v y hv hg)⟩ (fun t x hx=>by
     rw[Fu]at hx
     cases hg:look env t with
     |none=>simp[hg]at hx
     |some y=>simp[hg]at hx;subst hx;exact k3 _ _ (he t y hg))
    exact⟨g',k1.trans m1,m2⟩
   ·exact CQ r h hi hr he
  ·exact CQ r h hi hr he
def G.pureIn (g:G):G:={β:=fun _=>none,own:=fun _=>False,oth:=g.M,sp:=fun _=>none,bx:=fun _=>False}
theorem Jf (hi:Inv w g σ):Inv w g.pureIn []:=by
 refine⟨by simp[look],by simp[look,G.pureIn],by simp[G.pureIn],?_,by simp[G.pureIn],by simp[G.pureIn],fun p hp=>⟨fun h=>(hi.im p hp).1 (h.elim (fun x=>x.1.elim) (fun x=>x)),(hi.im p hp).2⟩,Nat.zero_le _,.empty (fun _ _ h=>by cases h) (fun _=>rfl)⟩
 rintro blk (h|⟨o,h|h⟩)
 ·exact h.elim
 ·exact hi.lt blk (.inl h.1)
 ·exact hi.lt blk (.inr ⟨o,h⟩)
theorem NJ (b o:Nat):g.pureIn.M b o↔g.M b o:=by simp[G.M,G.pureIn]
open Classical in
noncomputable def G.pureOut (g g':G):G:={g with own:=fun b=>g.own b\/g'.own b,sp:=fun b=>if g.own b then g.sp b else g'.sp b}
theorem NX {w':World} {g':G} (hi:Inv w g σ) (hx:Ext w g.pureIn w' g') (b o:Nat):(g.pureOut g').M b o↔g'.M b o:=by
 have hnow:g.own b-> ¬g'.own b:=fun h1 h2=>(hx.own b (hi.lt b (.inl h1)) h2).elim
 constructor
 ·rintro(⟨h|h,hs⟩|h)
  ·refine .inr ((hx.oth b o).2 (.inl ⟨h,fun e he=>hs e ?_⟩))
   simp only[G.pureOut,h,if_true];exact he
  ·refine .inl ⟨h,fun e he=>hs e ?_⟩
   by_cases hg:g.own b
   ·exact absurd h (hnow hg)
   ·simp only[G.pureOut,hg,if_false];exact he
  ·exact .inr ((hx.oth b o).2 (.inr h))
 ·rintro(⟨h,hs⟩|h)
  ·refine .inl ⟨.inr h,fun e he=>hs e ?_⟩
   by_cases hg:g.own b
   ·exact absurd h (hnow hg)
   ·simp only[G.pureOut,hg,if_false]at he;exact he
  ·rcases(hx.oth b o).1 h with⟨h',hs⟩|h'
   ·refine .inl ⟨.inl h',fun e he=>hs e ?_⟩
    simp only[G.pureOut,h',if_true]at he;exact he
   ·exact .inr h'
theorem QZ {w':World} {g':G} {σ':St} (hi:Inv w g σ) (hi':Inv w' g' σ') (hx:Ext w g.pureIn w' g'):
  Ext w g w' (g.pureOut g')/\Inv w' (g.pureOut g') σ/\(∀v x,Rel w g v x->Rel w' (g.pureOut g') v x)/\(∀v x,Rel w' g' v x->x.free=true->Rel w' (g.pureOut g') v x):=by
 have hsame: ∀blk,blk<w.heap.size->w'.heap[blk]?=w.heap[blk]?:=fun blk hb=>hx.keep blk hb (by simp[G.pureIn])
 have hext:Ext w g w' (g.pureOut g'):=by
  refine⟨hx.size,fun blk hb _=>hsame blk hb,?_,fun _ _=>Iff.rfl,hx.shape,fun b hb=>⟨hb,Y⟩,⟨Y,hx.lo.2⟩,Gt (fun blk e _ ho h=>by simp only[G.pureOut,ho,if_true];exact h) (fun blk e hb _ _=>hsame blk hb)⟩
  rintro blk hb (h|h)
  ·exact h
  ·exact(hx.own blk hb h).elim
 have hr: ∀v x,Rel w g v x->Rel w' (g.pureOut g') v x:=fun v x h=>h.mono hext.keeps (fun _ _ h=>h) hx.shape
 have hnow: ∀blk,g.own blk-> ¬g'.own blk:=fun blk h1 h2=>(hx.own blk (hi.lt blk (.inl h1)) h2).elim
 refine⟨hext,⟨?_,hi.dom,hi.inj,?_,hi.bx,?_,hi.im_of hext.keeps,Nat.le_trans hi.lo hext.size,⟨fun blk e h=>?_,fun c blk h=>?_,hi.sx.one,fun b L hL=>?_⟩⟩,hr,?_⟩
 ·intro b B hB
  exact Fc.mono (w:=w) (w':=w') (g:=g) (g':=g.pureOut g') Y (fun _ _ h=>.inl h) (fun blk hb=>hsame _ (E9 hi hb).1) hr (hi.ok b B hB)
 ·rintro blk ((h|h)|h)
  ·exact Nat.lt_of_lt_of_le (hi.lt blk (.inl h)) hx.size
  ·exact hi'.lt blk (.inl h)
  ·exact Nat.lt_of_lt_of_le (hi.lt blk (.inr h)) hx.size
 ·rintro blk o (h|h) ho
  ·exact hi.dis blk o h ho
  ·exact hi'.dis blk o h ((hx.oth blk o).2 (.inr ho))
 ·simp only[G.pureOut]at h
  split at h
  ·exact Nat.lt_of_lt_of_le (hi.sx.lt blk e h) hx.size
  ·exact hi'.sx.lt blk e h
 ·have ho:=(E9 hi h).2.1
  simp only[G.pureOut,ho,if_true]
  exact hi.sx.bs c blk h
 ·obtain⟨h1,h2⟩:=hi.sx.ok b L hL
  refine⟨h1,fun p hp=>?_⟩
  obtain⟨k1,k2,vs,ty,k3,k4⟩:=h2 p hp
  exact⟨.inl k1,by simp only[G.pureOut,k1,if_true];exact k2,vs,ty,by rw[hsame _ (hi.sx.lt _ _ k2)];exact k3,k4⟩
 ·intro v x h hf
  refine h.free ?_ hf
  intro b o v hm hc
  refine⟨?_,hc⟩
  exact fun h=>hm ((NX hi hx b o).1 h)
theorem MA (k:Nat): ∀l,(shL k l).length=l.length
 |[]=>by simp[shL]
 |x::r=>by simp[shL,MA k r]
theorem MB (k:Nat): ∀(l:List AV) (i:Nat),(shL k l)[i]?=(l[i]?).map (shA k)
 |[],i=>by simp[shL]
 |x::r,0=>by simp[shL]
 |x::r,i+1=>by simp[shL,MB k r i]
theorem Nd {σ:St}: ∀{l:List AV},inL σ l=true-> ∀(i:Nat) x,l[i]?=some x->inA σ x=true
 |[],_,i,x,h=>by simp at h
 |y::r,hf,i,x,h=>by
  simp only[inL,Bool.and_eq_true]at hf
  cases i with
  |zero=>simp at h;subst h;exact hf.1
  |succ i=>simp at h;exact Nd hf.2 i x h
theorem I3 (k:Nat): ∀(l:St) (b:Nat),look (shS k l) b=if k<=b then look l (b-k)else none
 |[],b=>by simp[shS,look]
 |(c,B)::r,b=>by
  simp only[shS]
  rw[Ao,Ao,I3 k r b]
  by_cases h:c+k=b
  ·have h1:k<=b:=by omega
   have h2:c=b-k:=by omega
   rw[if_pos h,if_pos h1,if_pos h2]
  ·by_cases h1:k<=b
   ·have h2: ¬c=b-k:=by omega
    simp[h,h1,h2]
   ·simp[h,h1]
theorem De {α:Type}: ∀(l1 l2:List (Nat×α)) (b:Nat),look (l1++l2) b=(look l1 b).or (look l2 b)
 |[],l2,b=>by simp[look]
 |(c,x)::r,l2,b=>by
  simp only[List.cons_append]
  rw[Ao,Ao,De r l2 b]
  by_cases h:c=b<;>simp[h]
theorem Jn (r:AV) (σ:St): ∀(l:St) (b:Nat) B,look (JC r σ l) b=some B->(∃sz es,B=.grow sz es)/\look σ b=some B
 |[],b,B,h=>by simp[JC,look]at h
 |(c,C)::l,b,B,h=>by
  simp only[JC]at h
  split at h
  ·split at h
   ·rename_i sz es hc
    rw[Ao]at h
    split at h
    ·rename_i e;simp at h;subst h;subst e;exact⟨⟨sz,es,Y⟩,hc⟩
    ·exact Jn r σ l b B h
   ·exact Jn r σ l b B h
  ·exact Jn r σ l b B h
theorem J3 {σ:St}: ∀{l:St},OA σ l=true-> ∀b B,look l b=some B->look σ b=none
 |[],_,b,B,h=>by simp[look]at h
 |(c,C)::r,ha,b,B,h=>by
  simp only[OA,Bool.and_eq_true]at ha
  rw[Ao]at h
  split at h
  ·rename_i e;subst e
   have:=ha.1
   cases hl:look σ c with
   |none=>rfl
   |some x=>rw[hl]at this;simp at this
  ·exact J3 ha.2 b B h
def G.hand (g gc:G) (k:Nat) (τ:St):G:={g with β:=fun b=>match look (shS k τ) b with
 |some _=>gc.β (b-k)
 |none=>g.β b}
theorem RM {w':World} {gp gc:G} {σ1 τ:St} {k:Nat} (hi:Inv w' gp σ1) (hc: ∀b B,look τ b=some B->(∃sz es,B=.grow sz es)/\Fc w' gc b B) (hcinj: ∀b b' blk,gc.β b=some (some blk)->gc.β b'=some (some blk)->b=b')
  (hap:OA σ1 (shS k τ)=true) (hM: ∀b o,gp.M b o↔gc.M b o) (hown: ∀b,gc.own b->gp.own b) (hspc: ∀c blk,gc.β c=some (some blk)->gp.sp blk=none) (hfresh: ∀b c blk,gp.β b=some (some blk)->gc.β c=some (some blk)->False):
  Inv w' (gp.hand gc k τ) (shS k τ++σ1)/\(∀v x,Rel w' gp v x->Rel w' (gp.hand gc k τ) v x)/\(∀v x,Rel w' gc v x->inA τ x=true->Rel w' (gp.hand gc k τ) v (shA k x)):=by
 have hMe: ∀{v:Value} {x:T},RelT w' gc.M v x->RelT w' (gp.hand gc k τ).M v x:=fun h=>h.mono fun b o v h1 h2=>⟨fun h=>h1 ((hM b o).1 h),h2⟩
 have hβ: ∀b p,gp.β b=some p->(gp.hand gc k τ).β b=some p:=by
  intro b p hb
  simp only[G.hand]
  cases hl:look (shS k τ) b with
  |none=>exact hb
  |some B=>
   have h1:=J3 hap b B hl
   have h2:=hi.dom b
   rw[h1,hb]at h2;simp at h2
 have hβ2: ∀b B p,look τ b=some B->gc.β b=some p->(gp.hand gc k τ).β (b+k)=some p:=by
  intro b B p hl hb
  simp only[G.hand]
  have:look (shS k τ) (b+k)=some B:=by rw[I3];simp[hl]
  rw[this];simp[hb]
 have hr: ∀v x,Rel w' gp v x->Rel w' (gp.hand gc k τ) v x:=fun v x h=>Rel.mono (w:=w') (w':=w') (g:=gp) (g':=gp.hand gc k τ) (fun b o v h1 h2=>⟨h1,h2⟩) hβ (fun _ _ h=>h) h
 have hrc: ∀v x,Rel w' gc v x->inA τ x=true->Rel w' (gp.hand gc k τ) v (shA k x):=by
  intro v x h
  induction h with
  |t v x h=>intro _;simp only[shA];exact .t _ _ (hMe h)
  |top v=>intro _;simp only[shA];exact .top v
  |ref c o blk h=>intro hh;simp[inA]at hh
  |eref c s i o blk h=>
   intro hh;simp only[inA,Option.isSome_iff_exists]at hh
   obtain⟨B,hB⟩:=hh
   simp only[shA];exact .eref _ _ _ _ _ (hβ2 _ B _ hB h)
  |mref c blk h=>intro hh;simp[inA]at hh
  |rowNil c s a ha h=>
   intro hh;simp only[inA,Option.isSome_iff_exists]at hh
   obtain⟨B,hB⟩:=hh
   simp only[shA];exact .rowNil _ _ _ ha (hβ2 _ B _ hB h)
  |row c s lo len blk o cap e0 n h hs ho hl hn=>
   intro hh;simp only[inA,Option.isSome_iff_exists]at hh
   obtain⟨B,hB⟩:=hh
   simp only[shA];exact .row _ _ _ _ blk o cap e0 n (hβ2 _ B _ hB h) hs ho hl hn
  |iface t v x _ ih=>intro hh;simp only[inA]at hh;simp only[shA];exact .iface _ _ _ (ih hh)
  |func fn v1 v2 x1 x2 h1 h2 _ _ i1 i2=>
   intro hh;simp only[inA,Bool.and_eq_true]at hh
   simp only[shA]
   refine .func fn v1 v2 _ _ (by rw[MA];exact h1) (by rw[MA];exact h2) (fun i v x hv hx=>?_) (fun i v x hv hx=>?_)
   ·rw[MB]at hx
    cases hg:x1[i]? with
    |none=>simp[hg]at hx
    |some y=>simp[hg]at hx;subst hx;exact i1 i v y hv hg (Nd hh.1 i y hg)
   ·rw[MB]at hx
    cases hg:x2[i]? with
    |none=>simp[hg]at hx
    |some y=>simp[hg]at hx;subst hx;exact i2 i v y hv hg (Nd hh.2 i y hg)
  |agg vs xs h _ ih=>
   intro hh;simp only[inA]at hh
   simp only[shA]
   refine .agg vs _ (by rw[MA];exact h) fun i v x hv hx=>?_
   rw[MB]at hx
   cases hg:xs[i]? with
   |none=>simp[hg]at hx
   |some y=>simp[hg]at hx;subst hx;exact ih i v y hv hg (Nd hh i y hg)
  |tuple vs xs h _ ih=>
   intro hh;simp only[inA]at hh
   simp only[shA]
   refine .tuple vs _ (by rw[MA];exact h) fun i v x hv hx=>?_
   rw[MB]at hx
   cases hg:xs[i]? with
   |none=>simp[hg]at hx
   |some y=>simp[hg]at hx;subst hx;exact ih i v y hv hg (Nd hh i y hg)
 refine⟨⟨?_,?_,?_,hi.lt,?_,hi.dis,hi.im,hi.lo,hi.sx.mono (Nat.le_refl _) Y (fun _ _ _ h=>h) (fun _ _ _ _ _=>rfl) (fun c blk h=>?_) (fun b L hL=>?_)⟩,hr,hrc⟩
 ·intro b B hB
  rw[De]at hB
  cases hl:look (shS k τ) b with
  |some C=>
   rw[hl]at hB;simp at hB;subst hB
   rw[I3]at hl
   split at hl
   ·rename_i hk
    obtain⟨⟨sz,es,rfl⟩,hok⟩:=hc _ _ hl
    have hb':b-k+k=b:=by omega
    obtain⟨h0,h⟩:=hok
    refine⟨h0,?_⟩
    rcases h with⟨h1,h2⟩|⟨blk,vs,e,h1,h2,h3,h4,h5⟩
    ·exact .inl ⟨by have:=hβ2 _ _ _ hl h1;rwa[hb']at this,h2⟩
    ·exact .inr ⟨blk,vs,e,by have:=hβ2 _ _ _ hl h1;rwa[hb']at this,hown _ h2,h3,h4,fun i v x hv hx=>⟨(h5 i v x hv hx).1,hMe (h5 i v x hv hx).2⟩⟩
   ·cases hl
  |none=>
   rw[hl]at hB;simp at hB
   exact Fc.mono (w:=w') (g:=gp) (g':=gp.hand gc k τ) (by
    cases hg:gp.β b with
    |none=>have:=hi.dom b;rw[hB,hg]at this;simp at this
    |some p=>exact hβ _ _ hg) (fun _ _ h=>h) (fun _ _=>rfl) hr (hi.ok b B hB)
 ·intro b
  rw[De]
  simp only[G.hand]
  cases hl:look (shS k τ) b with
  |none=>simp;exact hi.dom b
  |some C=>
   simp
   rw[I3]at hl
   split at hl
   ·obtain⟨⟨sz,es,rfl⟩,hok⟩:=hc _ _ hl
    rcases hok.2 with⟨h1,_⟩|⟨blk,_,_,h1,_⟩<;>rw[h1]<;>rfl
   ·cases hl
 ·intro b b' blk h1 h2
  simp only[G.hand]at h1 h2
  cases hl:look (shS k τ) b with
  |none=>
   rw[hl]at h1
   cases hl':look (shS k τ) b' with
   |none=>rw[hl']at h2;exact hi.inj _ _ _ h1 h2
   |some C=>rw[hl']at h2;exact(hfresh _ _ _ h1 h2).elim
  |some C=>
   rw[hl]at h1
   cases hl':look (shS k τ) b' with
   |none=>rw[hl']at h2;exact(hfresh _ _ _ h2 h1).elim
   |some C'=>
    rw[hl']at h2
    have:=hcinj _ _ _ h1 h2
    rw[I3]at hl hl'
    split at hl
    ·split at hl'
     ·omega
     ·cases hl'
    ·cases hl
 ·intro b hb
  obtain⟨h1,cs,h2⟩:=hi.bx b hb
  refine⟨h1,cs,?_⟩
  rw[De]
  cases hl:look (shS k τ) b with
  |none=>simpa using h2
  |some C=>have:=J3 hap b C hl;rw[h2]at this;cases this
 ·simp only[G.hand]at h
  split at h
  ·exact .inr (hspc _ _ h)
  ·exact .inl ⟨c,h⟩
 ·rw[De]at hL
  cases hl:look (shS k τ) b with
  |none=>rw[hl]at hL;simpa using hL
  |some C=>
   rw[hl]at hL;simp at hL;subst hL
   rw[I3]at hl
   split at hl
   ·obtain⟨⟨sz,es,h1⟩,_⟩:=hc _ _ hl
    cases h1
   ·cases hl
theorem Ky {w':World} {gc:G} {σ1 σ2 σ':St} {g1:G} {a:Act} {env1 env':Env} {dst:Option Nat} {r x:AV} {v:Value} (hi:Inv w g1 σ1) (he:AK w g1 a env1) (hi':Inv w' gc σ2) (hx:Ext w g1.pureIn w' gc) (hv:Rel w' gc v r)
  (h:Kz dst r σ2 env1 σ1=some (x,env',σ')):ER w g1 a x env' σ' v w':=by
 obtain⟨k1,k2,k3,k4⟩:=QZ hi hi' hx
 unfold Kz at h
 split at h
 ·rename_i hf
  simp at h
  obtain⟨rfl,rfl,rfl⟩:=h
  exact⟨_,k1,k4 _ _ hv hf,k2,he.mono k3⟩
 ·split at h
  ·rename_i d
   split at h
   ·rename_i hb
    simp at h
    obtain⟨rfl,rfl,rfl⟩:=h
    simp only[Bool.and_eq_true]at hb
    have hMM:=NX hi hx
    obtain⟨m1,m2,m3⟩:=RM (k:=2000*(d+1)) (τ:=JC r σ2 σ2) k2 (fun b B hB=>by
     obtain⟨q1,q2⟩:=Jn r σ2 σ2 b B hB
     exact⟨q1,hi'.ok b B q2⟩) hi'.inj hb.2 hMM (fun b hb=>.inr hb) (fun c blk q2=>by
     have h2:=(E9 hi' q2).2.1
     have hno: ¬g1.own blk:=fun h1=>hx.own blk (hi.lt blk (.inl h1)) h2
     simp only[G.pureOut,hno,if_false]
     exact hi'.sx.bs c blk q2) (fun b c blk q1 q2=>by
     have h1:=(E9 hi q1).1
     have h2:=(E9 hi' q2).2.1
     exact hx.own blk h1 h2)
    have hap:=hb.2
    refine⟨(g1.pureOut gc).hand gc (2000*(d+1)) (JC r σ2 σ2),⟨k1.size,k1.keep,k1.own,k1.oth,k1.shape,fun b hb=>⟨hb,?_⟩,⟨Y,k1.lo.2⟩,k1.sp⟩,m3 _ _ hv hb.1,m1,(he.mono k3).mono m2⟩
    obtain⟨_,cs,q⟩:=hi.bx b hb
    simp only[G.hand]
    cases hl:look (shS (2000*(d+1)) (JC r σ2 σ2)) b with
    |none=>rfl
    |some C=>have:=J3 hap b C hl;rw[q]at this;cases this
   ·simp at h
  ·simp at h
theorem NB (hp:ProgOk P c) (hcf:EB P cf) (hi:Inv w g σ) {a:Act} {env env':Env} {σ':St} (he:AK w g a env) {o:Oper} {cl:Call} (ho:o.op=.call cl) {x:AV}
  (h:Lt c cf o.dst cl env σ=some (x,env',σ')):BJ P o a w (ER w g a x env' σ'):=by
 have gen: ∀(f:Nat) (as:List AV) (r:AV) (σ2:St),C6 c env cl=some (f,as)->cf f (upL as) (upS σ)=some (r,σ2)->BJ P o a w (ER w g a (EZ r) (PC σ env) (CC σ2)):=by
  intro f as r σ2 hc hr
  obtain⟨⟨fn,hf,hb⟩,hca⟩:=hcf _ _ _ _ _ hr
  obtain⟨vs,hrun,hrel⟩:=C5 hp he hc ho hf hb
  refine BJ.enter hrun ((hca vs w (g.up σ) ⟨by rw[HE];exact hrel.1,fun i v x hv hx=>?_⟩ (Yt hi)).mono ?_)
  ·rw[HF]at hx
   cases hg:as[i]? with
   |none=>simp[hg]at hx
   |some y=>simp[hg]at hx;subst hx;exact Qv (hrel.2 i v y hv hg)
  ·rintro e w' ⟨v,g',rfl,h1,h2,h3⟩
   exact⟨v,Y,g'.down g,XC hi h1,N7 h2,XB hi h3 h1,Abz h1 he⟩
 unfold Lt at h
 split at h
 ·rename_i f as hc
  split at h
  ·split at h
   ·rename_i r σ2 hr
    simp at h
    obtain⟨rfl,rfl,rfl⟩:=h
    exact gen f as r σ2 hc hr
   ·simp at h
  ·split at h
   rename_i as' env1 σ1 hfz
   split at h
   ·rename_i hfree
    split at h
    ·rename_i r σ2 hr
     obtain⟨⟨fn,hf,hb⟩,hca⟩:=hcf _ _ _ _ _ hr
     obtain⟨vs,hrun,hrel⟩:=C5 hp he hc ho hf hb
     obtain⟨g1,f1,f2,f3,f4⟩:=CQ (w:=w) σ hfz hi hrel he
     refine BJ.enter hrun ((hca vs w g1.pureIn ⟨f3.1,fun i v x hv hx=>?_⟩ (Jf f2)).mono ?_)
     ·exact(f3.2 i v x hv hx).free (fun b o v h1 h2=>⟨fun h=>h1 ((NJ b o).1 h),h2⟩) (E0 hfree i x hx)
     ·rintro e w' ⟨v,g',rfl,h1,h2,h3⟩
      exact⟨v,Y,(Ky f2 f4 h3 h1 h2 h).lift f1⟩
    ·simp at h
   ·split at h
    ·rename_i r σ2 hr
     simp at h
     obtain⟨rfl,rfl,rfl⟩:=h
     exact gen f as r σ2 hc hr
    ·simp at h
 ·simp at h
theorem Bt.nil:Bt w g [] []:=⟨Y,by simp⟩
theorem MJ (hi:Inv w g σ) {a:Act} {env env':Env} {σ':St} (he:AK w g a env) {o:Oper} (h:Jj o env σ=(env',σ')): ∃g',Ext w g w g'/\Inv w g' σ'/\AK w g' a env':=by
 have triv:(env,σ)=(env',σ')-> ∃g',Ext w g w g'/\Inv w g' σ'/\AK w g' a env':=fun h=>by
  simp at h;obtain⟨rfl,rfl⟩:=h;exact⟨g,A1t _ _,hi,he⟩
 have gen: ∀(xs:List AV) (vs:List Value),Bt w g vs xs->(DQ σ xs env σ).2=(env',σ')-> ∃g',Ext w g w g'/\Inv w g' σ'/\AK w g' a env':=by
  intro xs vs hr h
  obtain⟨g',k1,k2,_,k3⟩:=CQ (w:=w) σ (as:=xs) (as':=(DQ σ xs env σ).1) (env':=env') (σ':=σ') (by rw[<-h]) hi hr he
  exact⟨g',k1,k2,k3⟩
 unfold Jj at h
 split at h
 ·rename_i t n parts ho
  split at h
  ·rename_i ps hps
   obtain⟨h1,h2⟩:=Jt he hps
   refine gen _ (parts.toList.map fun p=>a.eval p.2) ⟨by simpa using h1,fun i v x hv hx=>?_⟩ h
   simp only[List.getElem?_map]at hv hx
   cases hp:parts.toList[i]? with
   |none=>simp[hp]at hv
   |some p=>
    cases hq:ps[i]? with
    |none=>simp[hq]at hx
    |some q=>
     simp[hp]at hv;simp[hq]at hx
     subst hv;subst hx
     exact(h2 i (p.1,a.eval p.2) q (by simp[hp]) hq).2
  ·exact triv h
 ·rename_i t p x ho
  split at h
  ·split at h
   ·rename_i y hy
    exact gen _ [a.eval x] (A1v (AG he hy) Bt.nil) h
   ·exact triv h
  ·exact triv h
 ·exact triv h
theorem Yy (hp:ProgOk P c) (hcf:EB P cf) (hi:Inv w g σ) {a:Act} {env env':Env} {σ':St} (he:AK w g a env) {o:Oper} {x:AV}
  (h:Dx c cf o env σ=some (x,env',σ')):BJ P o a w (ER w g a x env' σ'):=by
 have pcase: ∀x,Ce c.te o.op env=some x->BJ P o a w (ER w g a x env σ):=fun x hx=>by
  obtain⟨v,h1,h2⟩:=QY (P:=P) hp.te he hx
  exact BJ.value h1 ⟨g,A1t _ _,h2,hi,he⟩
 have pcase':(match Ce c.te o.op env with
  |some x=>some (x,env,σ)
  |none=>none)=some (x,env',σ')->BJ P o a w (ER w g a x env' σ'):=fun h=>by
  split at h
  ·rename_i y hy
   simp at h
   obtain⟨rfl,rfl,rfl⟩:=h
   exact pcase _ hy
  ·simp at h
 have fcase:(match Jj o env σ with
  |(env,σ)=>F1 c.toCfg o env σ)=some (x,env',σ')->BJ P o a w (ER w g a x env' σ'):=fun h=>by
  cases hpf:Jj o env σ with
  |mk env1 σ1=>
   rw[hpf]at h
   obtain⟨g1,k1,k2,k3⟩:=MJ hi he hpf
   exact(EW hp.te k2 k3 h).mono fun v w' hq=>hq.lift k1
 unfold Dx at h
 split at h
 ·exact EW hp.te hi he h
 ·exact EW hp.te hi he h
 ·exact EW hp.te hi he h
 ·exact fcase h
 ·exact EW hp.te hi he h
 ·exact EW hp.te hi he h
 ·exact GO hp.te hi he h
 ·exact GO hp.te hi he h
 ·exact GO hp.te hi he h
 ·exact GO hp.te hi he h
 ·exact fcase h
 ·rename_i cl ho
  split at h
  ·exact EW hp.te hi he h
  ·split at h
   ·rename_i y hy
    simp at h
    obtain⟨rfl,rfl,rfl⟩:=h
    exact pcase _ hy
   ·exact GO hp.te hi he h
  ·exact GO hp.te hi he h
  ·exact pcase' h
  ·exact NB hp hcf hi he ho h
  ·exact NB hp hcf hi he ho h
 ·exact pcase' h
end
end Go.Am
namespace Go.Am
section
variable {P:Program} {c:Conf} {cf:Nat->List AV->St->Option (AV×St)} {R:Type}
def G3 (w:World) (g:G) (ds:List Deferred):Prop:=
 ∃Ds:List Nat,ds=Ds.map (fun D=>({target:=.collected D,args:= #[]}:Deferred))/\Ds.Nodup/\ ∀D∈Ds,w.heap[D]?=some (.deferred (some []))/\ ¬g.own D/\g.lo<=D
theorem G3.nil {w:World} {g:G}:G3 w g []:=⟨[],Y,List.nodup_nil,fun _ h=>by simp at h⟩
theorem G3.ext {w w':World} {g g':G} {ds:List Deferred} (h:G3 w g ds) (hx:Ext w g w' g'):G3 w' g' ds:=by
 obtain⟨Ds,h1,h2,h3⟩:=h
 refine⟨Ds,h1,h2,fun D hD=>?_⟩
 obtain⟨k1,k2,k3⟩:=h3 D hD
 have hlt:D<w.heap.size:=(Array.getElem?_eq_some_iff.1 k1).1
 exact⟨by rw[hx.keep D hlt k2];exact k1,fun ho=>k2 (hx.own D hlt ho),by rw[hx.lo.1];exact k3⟩
structure Good (n:Nat) (w:World) (g:G) (a:Act) (env:Env) (σ:St):Prop where
 env:AK w g a env
 inv:Inv w g σ
 defers:G3 w g a.defers
 size:n<=a.tmps.size
theorem Cm {n:Nat} {w:World} {g:G} {a:Act} {env env2:Env} {σ:St} {dst:Option Nat} {x:AV} {v:Value} (h:B4 n dst x env=some env2) (hg:Good n w g a env σ) (hr:Rel w g v x):
  Good n w g (a.put dst v) env2 σ:=by
 unfold B4 at h
 split at h
 ·rename_i d
  split at h
  ·rename_i hb
   simp at h;subst h
   have hd:d<n:=by simpa[Nat.blt_eq]using hb
   have hsz:=hg.size
   refine⟨fun t y hy=>?_,hg.inv,hg.defers,by simp[Act.put];exact hsz⟩
   rw[Ao]at hy
   split at hy
   ·rename_i e
    simp at hy;subst hy;subst e
    simp[Act.put,Array.getD,hr,show d<a.tmps.size by omega]
   ·rename_i e
    have:=hg.env t y hy
    have e2:({a with tmps:=a.tmps.setIfInBounds d v}:Act).tmps.getD t undef=a.tmps.getD t undef:=by
     simp only[Array.getD_eq_getD_getElem?]
     rw[Array.getElem?_setIfInBounds_ne e]
    simp only[Act.put]
    rw[e2];exact this
  ·simp at h
 ·simp at h;subst h;exact hg
def AL (ops:Array Oper) (o:Oper) (env:Env) (kT kF:Env->Prop):Prop:=
 match o.guard with
 |none=>kT env
 |some (j,want)=>match ops[j]? with
  |some oj=>match oj.dst with
   |some d=>match look env d with
    |some (.t (.bool b))=>(b=want->kT ((d,.t (.bool want))::env))/\(b= !want->kF ((d,.t (.bool (!want)))::env))
    |some (.t .undef)=>kF env
    |_=>False
   |none=>False
  |none=>False
def FX (n:Nat) (dst:Option Nat) (x:AV) (env:Env) (K:Env->Prop):Prop:= ∃e,B4 n dst x env=some e/\K e
def Hm (P:Program) (o:Oper) (env:Env) (σ:St) (K:AV->Env->St->Prop):Prop:=
 ∀w g a,Inv w g σ->AK w g a env->BJ P o a w fun v w'=> ∃x e s,ER w g a x e s v w'/\K x e s
theorem A1w {cf:Nat->List AV->St->Option (AV×St)} (hp:ProgOk P c) (hcf:EB P cf) {o:Oper} {env e:Env} {σ s:St} {x:AV} {K:AV->Env->St->Prop} (h:Dx c cf o env σ=some (x,e,s)) (hk:K x e s):Hm P o env σ K:=
 fun _ _ _ hi he=>(Yy hp hcf hi he h).mono fun _ _ hq=>⟨x,e,s,hq,hk⟩
theorem Hm.mono {o:Oper} {env:Env} {σ:St} {K K':AV->Env->St->Prop} (h:Hm P o env σ K) (hk: ∀x e s,K x e s->K' x e s):Hm P o env σ K':=
 fun w g a hi he=>(h w g a hi he).mono fun _ _ ⟨x,e,s,h1,h2⟩=>⟨x,e,s,h1,hk _ _ _ h2⟩
def A2 (P:Program) (n:Nat) (ops:Array Oper):List Oper->Env->St->(Env->St->Prop)->Prop
 |[],env,σ,K=>K env σ
 |o::rest,env,σ,K=>AL ops o env (fun env=>Hm P o env σ fun x e s=>FX n o.dst x e fun e2=>A2 P n ops rest e2 s K)
   (fun env=>FX n o.dst (.t .undef) env fun e2=>A2 P n ops rest e2 σ K)
theorem F6 {n:Nat} {w:World} {g:G} {a:Act} {env:Env} {σ:St} (hg:Good n w g a env σ) {ops:Array Oper} {o:Oper} {kT kF:Env->Prop} (h:AL ops o env kT kF):
  (Region.wanted o (yielded ops a.tmps)=true/\ ∃env1,kT env1/\Good n w g a env1 σ)\/(Region.wanted o (yielded ops a.tmps)=false/\ ∃env1,kF env1/\Good n w g a env1 σ):=by
 unfold AL at h
 unfold Region.wanted
 split at h
 ·rename_i hgd;exact .inl ⟨by rw[hgd],env,h,hg⟩
 ·rename_i j want hgd
  rw[hgd]
  split at h
  ·rename_i oj hj
   split at h
   ·rename_i d hd
    have hy:yielded ops a.tmps j=match a.tmps[d]? with
     |some (.bool b)=>some b
     |_=>none:=by
     unfold yielded
     rw[hj]
     simp only[Option.bind_some,hd]
     cases a.tmps[d]? with
     |none=>rfl
     |some v=>cases v<;>rfl
    split at h
    ·rename_i p hp
     have hr:=EE (hg.env d _ hp)
     have hv:a.tmps[d]?=some (.bool p):=by
      rw[Array.getD_eq_getD_getElem?]at hr
      cases ht:a.tmps[d]? with
      |none=>rw[ht]at hr;simp[undef]at hr
      |some u=>rw[ht]at hr;simp at hr;rw[hr]
     simp only[hy,hv]
     have hg': ∀b,p=b->Good n w g a ((d,.t (.bool b))::env) σ:=by
      intro b hb;subst hb
      refine⟨fun t x hx=>?_,hg.inv,hg.defers,hg.size⟩
      rw[Ao]at hx
      split at hx
      ·rename_i e;subst e;simp at hx;subst hx;exact hg.env d _ hp
      ·exact hg.env t x hx
     by_cases hpw:p=want
     ·refine .inl ⟨?_,_,h.1 hpw,hg' _ hpw⟩
      cases p<;>cases want<;>first|rfl|cases hpw
     ·have hpn:p= !want:=by cases p<;>cases want<;>first|rfl|exact absurd Y hpw
      refine .inr ⟨?_,_,h.2 hpn,hg' _ hpn⟩
      cases p<;>cases want<;>first|rfl|exact absurd Y hpw
    ·rename_i hp
     have hr:a.tmps.getD d undef=undef:=by
      have:=Aw (hg.env d _ hp)
      generalize hv:a.tmps.getD d undef=v at this
      cases this;rfl
     have hv:a.tmps[d]?=none\/a.tmps[d]?=some undef:=by
      rw[Array.getD_eq_getD_getElem?]at hr
      cases ht:a.tmps[d]? with
      |none=>exact .inl Y
      |some u=>rw[ht]at hr;simp at hr;rw[hr];exact .inr Y
     exact .inr ⟨by rcases hv with hv|hv<;>simp[hy,hv,undef],env,h,hg⟩
    ·exact h.elim
   ·exact h.elim
  ·exact h.elim
def BS (n:Nat) (w:World) (g:G) (K:Exit->Env->St->Prop) (ex:Exit) (a':Act) (w':World):Prop:=
 ∃env' σ' g',Ext w g w' g'/\Good n w' g' a' env' σ'/\K ex env' σ'
theorem BS.lift {n:Nat} {w w1 w':World} {g g1:G} {K:Exit->Env->St->Prop} {ex:Exit} {a':Act} (h:Ext w g w1 g1) (hp:BS n w1 g1 K ex a' w'):BS n w g K ex a' w':=by
 obtain⟨env',σ',g',h1,h2⟩:=hp
 exact⟨env',σ',g',h.trans h1,h2⟩
theorem Mh {F:Fence} (hF:IsW F) {n:Nat} {ops:Array Oper} {K:Exit->Env->St->Prop}: ∀(l:List Oper) {w:World} {g:G} {a:Act} {env:Env} {σ:St},
  A2 P n ops l env σ (K .normal)->Good n w g a env σ-> ∀{w0:World} {g0:G},Ext w0 g0 w g->wpListIn F 0 P ops (BS n w0 g0 K) l a w
 |[],w,g,a,env,σ,h,hg,w0,g0,hx=>⟨env,σ,g,hx,hg,h⟩
 |o::rest,w,g,a,env,σ,h,hg,w0,g0,hx=>by
  simp only[A2]at h
  simp only[wpListIn]
  rcases F6 hg h with⟨hw,env0,h,hg⟩|⟨hw,env0,h,hg⟩
  ·rw[hw]
   simp only[if_true]
   refine h w g a hg.inv hg.env F hF _ _ ?_
   rintro v w' ⟨x,e,s,⟨g',h1,h2,h3,h4⟩,e2,hput,h⟩
   exact Mh hF rest h (Cm hput ⟨h4,h3,hg.defers.ext h1,hg.size⟩ h2) (hx.trans h1)
  ·rw[hw]
   simp only[Bool.false_eq_true,if_false]
   obtain⟨e2,hput,h⟩:=h
   exact⟨fun f _=>hF.fn f,Mh hF rest h (Cm hput hg (.t _ _ .undef)) hx⟩
def Kx:List Oper->Bool
 |[]=>false
 |o::r=>(match o.op with
  |.call cl=>(match cl.callee with
   |.builtin .append=>true
   |_=>Kx r)
  |_=>Kx r)
def Lx:Code->Bool
 |.region _ ops true=> !Kx ops.toList
 |.rangeFunc _ _ _ _=>false
 |.seq a b=>Lx a&&Lx b
 |.cond _ a b=>Lx a&&Lx b
 |.block _ b=>Lx b
 |.loop b=>Lx b
 |.scope b=>Lx b
 |_=>true
def RF (F:Fence) (c:Code):Prop:=F.round=none\/Lx c=true
theorem RF.seq {F:Fence} {a b:Code} (h:RF F (.seq a b)):RF F a/\RF F b:=by
 rcases h with h|h
 ·exact⟨.inl h,.inl h⟩
 ·simp only[Lx,Bool.and_eq_true]at h;exact⟨.inr h.1,.inr h.2⟩
theorem RF.cond {F:Fence} {x:Operand} {a b:Code} (h:RF F (.cond x a b)):RF F a/\RF F b:=by
 rcases h with h|h
 ·exact⟨.inl h,.inl h⟩
 ·simp only[Lx,Bool.and_eq_true]at h;exact⟨.inr h.1,.inr h.2⟩
theorem RF.block {F:Fence} {i:Nat} {b:Code} (h:RF F (.block i b)):RF F b:=h
theorem RF.loop {F:Fence} {b:Code} (h:RF F (.loop b)):RF F b:=h
def Tr (P:Program) (n:Nat) (code:Code) (env:Env) (σ:St) (K:Exit->Env->St->Prop):Prop:=
 ∀F,IsW F->RF F code-> ∀w g a,Good n w g a env σ->code.wpIn F 0 P (BS n w g K) a w
theorem RX: ∀(as:List AV) (i t:Nat) (x:AV),look (FG i as) t=some x->i<=t/\as[t-i]?=some x
 |[],i,t,x,h=>by simp[FG,look]at h
 |y::r,i,t,x,h=>by
  simp only[FG]at h
  rw[Ao]at h
  split at h
  ·rename_i e;subst e;simp at h;subst h;simp
  ·rename_i e
   obtain⟨h1,h2⟩:=RX r (i+1) t x h
   refine⟨by omega,?_⟩
   rw[show t-i=(t-(i+1))+1 by omega]
   simpa using h2
theorem GF {n:Nat} {w:World} {a:Act}: ∀(l:St) {env env':Env} {σ σ':St} {g:G},Mk l env σ=(env',σ')->Good n w g a env σ-> ∃g',Ext w g w g'/\Good n w g' a env' σ'
 |[],env,env',σ,σ',g,h,hg=>by
  simp[Mk]at h
  obtain⟨rfl,rfl⟩:=h
  exact⟨g,A1t _ _,hg⟩
 |(b,B)::r,env,env',σ,σ',g,h,hg=>by
  simp only[Mk]at h
  split at h
  ·split at h
   ·rename_i sz es hb
    obtain⟨k1,k2,k3⟩:=freeze hg.inv hb
    obtain⟨g',m1,m2⟩:=GF r h ⟨fun t x hx=>by
     rw[Fu]at hx
     cases hl:look env t with
     |none=>simp[hl]at hx
     |some y=>simp[hl]at hx;subst hx;exact k3 _ _ (hg.env t y hl),k2,hg.defers.ext k1,hg.size⟩
    exact⟨g',k1.trans m1,m2⟩
   ·exact GF r h hg
  ·exact GF r h hg
def UM (tmps:Array Value):ResultVar->Sem Value
 |.tmp t=>pure (tmps.getD t undef)
 |.cell q t=>do loadVar t (<-asAddr (tmps.getD q undef))
theorem YD (fn:Func) (tmps:Array Value):results fn tmps=(do
  let vs<-fn.results.mapM (UM tmps)
  pure (if h:vs.size=1 then vs[0]else .tuple vs):Sem Value):=by
 unfold results
 congr 2
theorem QT (hp:ProgOk P c) {n:Nat} {w:World} {g:G} {a:Act} {env:Env} {σ:St} (hg:Good n w g a env σ): ∀(l:List ResultVar) {xs:List AV},Ac0 c.te env σ l=some xs->
  ∃vs:List Value,(l.mapM (UM a.tmps):Sem (List Value)).run P w=.ok vs w/\Bt w g vs xs
 |[],xs,h=>by simp[Ac0]at h;subst h;exact⟨[],by simp,by simp[Bt]⟩
 |q::rs,xs,h=>by
  simp only[Ac0]at h
  split at h
  ·rename_i x hx
   split at h
   ·rename_i ys hy
    simp at h;subst h
    obtain⟨vs,h1,h2⟩:=QT hp hg rs hy
    have hq: ∃v,(UM a.tmps q).run P w=.ok v w/\Rel w g v x:=by
     cases q with
     |tmp t=>exact⟨_,Y,hg.env t x hx⟩
     |cell q t=>
      simp only[Aye]at hx
      split at hx
      ·rename_i p hpq
       split at hx
       ·have hrel:=hg.env q _ hpq
        obtain⟨v,l1,l2⟩:=R9 (P:=P) hp.te hg.inv hrel hx
        refine⟨v,?_,l2⟩
        simp only[UM]
        generalize hv:a.tmps.getD q undef=u at hrel l1⊢
        cases hrel with
        |ref b off blk hb=>simpa[Instr.loadAt,Instr.sureAddr,asAddr]using l1
       ·simp at hx
      ·simp at hx
    obtain⟨v,q1,q2⟩:=hq
    refine⟨v::vs,?_,A1v q2 h2⟩
    simp only[List.mapM_cons,Sem.run_bind,q1,Result.andThen_ok,h1,Sem.run_pure]
   ·simp at h
  ·simp at h
theorem Is (hp:ProgOk P c) {n:Nat} {w:World} {g:G} {a:Act} {env:Env} {σ σ':St} {x:AV} (hg:Good n w g a env σ) {fn:Func} {own:Bool} (h:JY c.te own fn.results.toList env σ=some (x,σ')):
  ∃v g',(results fn a.tmps).run P w=.ok v w/\Ext w g w g'/\Rel w g' v x/\Inv w g' σ':=by
 unfold JY at h
 split at h
 rename_i env1 σ1 hfz
 obtain⟨g1,f1,f2⟩: ∃g',Ext w g w g'/\Good n w g' a env1 σ1:=by
  cases own with
  |true=>simp at hfz;obtain⟨rfl,rfl⟩:=hfz;exact⟨g,A1t _ _,hg⟩
  |false=>exact GF (w:=w) (a:=a) σ hfz hg
 have key: ∀xs,Ac0 c.te env1 σ1 fn.results.toList=some xs-> ∃vs:List Value,(results fn a.tmps).run P w=.ok (if h:vs.toArray.size=1 then vs.toArray[0]else .tuple vs.toArray) w/\Bt w g1 vs xs:=by
  intro xs hxs
  obtain⟨vs,h1,h2⟩:=QT hp f2 fn.results.toList hxs
  refine⟨vs,?_,h2⟩
  have e:fn.results=fn.results.toList.toArray:=by simp
  rw[YD,e,List.mapM_toArray]
  simp only[Sem.run_bind,Sem.run_map]
  rw[h1]
  rfl
 split at h
 ·rename_i y hy
  simp at h
  obtain⟨rfl,rfl⟩:=h
  obtain⟨vs,k1,k2⟩:=key _ hy
  match vs,k2 with
  |[v],k2=>exact⟨v,g1,by simpa using k1,f1,k2.2 0 v y Y Y,f2.inv⟩
  |[],k2=>simp[Bt]at k2
  |_::_::_,k2=>simp[Bt]at k2
 ·rename_i xs hne hxs
  simp at h
  obtain⟨rfl,rfl⟩:=h
  obtain⟨vs,k1,k2⟩:=key _ hxs
  have hn1: ¬vs.toArray.size=1:=by
   intro h1
   have:xs.length=1:=by rw[<-k2.1];simpa using h1
   match xs,this with
   |[y],_=>exact hne y Y
  rw[dif_neg hn1]at k1
  exact⟨_,g1,k1,f1,.tuple vs xs k2.1 k2.2,f2.inv⟩
 ·simp at h
end
end Go.Am
namespace Go.Am
section
variable {P:Program} {c:Conf} {cf:Nat->List AV->St->Option (AV×St)}
theorem Lm {env env':Env}: ∀{l:List Operand},(∀x∈l,ev env x=ev env' x)->evL env l=evL env' l
 |[],_=>rfl
 |x::r,h=>by
  simp only[evL]
  rw[h x Ac,Lm (l:=r) fun y hy=>h y (by simp[hy])]
theorem O5 {env env':Env}: ∀{l:List (Nat×Operand)},(∀x∈l.map (·.2),ev env x=ev env' x)->evP env l=evP env' l
 |[],_=>rfl
 |(i,x)::r,h=>by
  simp only[evP]
  rw[h x Ac,O5 (l:=r) fun y hy=>h y (by simp at hy⊢;exact .inr hy)]
theorem J1 {env env':Env} {o:Option Operand} {d:Nat} (h: ∀x,o=some x->ev env x=ev env' x):BA env o d=BA env' o d:=by
 cases o with
 |none=>rfl
 |some x=>simp only[BA];rw[h x Y]
theorem U9 {te:TE} {t:Nat} {p:AV} {env env':Env} {lo hi mx:Option Operand} (h1: ∀x,lo=some x->ev env x=ev env' x) (h2: ∀x,hi=some x->ev env x=ev env' x)
  (h3: ∀x,mx=some x->ev env x=ev env' x):JR te t p env lo hi mx=JR te t p env' lo hi mx:=by
 unfold JR
 have e1: ∀d,BA env lo d=BA env' lo d:=fun d=>J1 h1
 have e2: ∀d,BA env hi d=BA env' hi d:=fun d=>J1 h2
 have e3: ∀d,BA env mx d=BA env' mx d:=fun d=>J1 h3
 simp only[e1,e2,e3]
theorem Ka {te:TE} {op:Op} {env env':Env} (h: ∀x∈op.operands,ev env x=ev env' x):Ce te op env=Ce te op env':=by
 cases op
 case move x=>simp only[Ce];rw[h x (by simp[Op.operands])]
 case assign x=>simp only[Ce];rw[h x (by simp[Op.operands])]
 case pick x y z=>simp only[Ce];rw[h x (by simp[Op.operands]),h y (by simp[Op.operands]),h z (by simp[Op.operands])]
 case binOp op t x y yt=>simp only[Ce];rw[h x (by simp[Op.operands]),h y (by simp[Op.operands])]
 case unOp op t x=>simp only[Ce];rw[h x (by simp[Op.operands])]
 case convert s d x=>simp only[Ce];rw[h x (by simp[Op.operands])]
 case makeInterface t x=>simp only[Ce];rw[h x (by simp[Op.operands])]
 case makeFunc fn f c=>
  simp only[Ce]
  rw[Lm (l:=f.toList) fun x hx=>h x (by simp[Op.operands];exact .inl (by simpa using hx)),Lm (l:=c.toList) fun x hx=>h x (by simp[Op.operands];exact .inr (by simpa using hx))]
 case nilCheck x=>simp only[Ce];rw[h x (by simp[Op.operands])]
 case fieldAddr t x i=>simp only[Ce];rw[h x (by simp[Op.operands])]
 case field t x i=>simp only[Ce];rw[h x (by simp[Op.operands])]
 case indexAddr t x i=>simp only[Ce];rw[h x (by simp[Op.operands]),h i (by simp[Op.operands])]
 case index t x i=>simp only[Ce];rw[h x (by simp[Op.operands]),h i (by simp[Op.operands])]
 case extract x i=>simp only[Ce];rw[h x (by simp[Op.operands])]
 case slice t x lo hi mx=>
  simp only[Ce]
  rw[h x (by simp[Op.operands])]
  have:=fun p=>U9 (te:=te) (t:=t) (p:=p) (env:=env) (env':=env') (lo:=lo) (hi:=hi) (mx:=mx) (fun y hy=>h y (by simp[Op.operands,hy])) (fun y hy=>h y (by simp[Op.operands,hy])) (fun y hy=>h y (by simp[Op.operands,hy]))
  simp only[this]
 case call cl=>
  simp only[Ce]
  split
  ·split
   ·rename_i x y hx
    have hm: ∀z,z∈cl.args.toList->ev env z=ev env' z:=fun z hz=>h z (by
     simp only[Op.operands,Call.operands]
     simp;exact .inr (by simpa using hz))
    rw[hm x (by rw[hx];simp),hm y (by rw[hx];simp)]
   ·rfl
  ·split
   ·rename_i x y hx
    have hm: ∀z,z∈cl.args.toList->ev env z=ev env' z:=fun z hz=>h z (by
     simp only[Op.operands,Call.operands]
     simp;exact .inr (by simpa using hz))
    rw[hm x (by rw[hx];simp),hm y (by rw[hx];simp)]
   ·rfl
  ·split
   ·rename_i x hx
    rw[h x (by
     simp only[Op.operands,Call.operands]
     have:x∈cl.args.toList:=by rw[hx];simp
     simp;exact .inr (by simpa using this))]
   ·rfl
  ·rfl
 all_goals rfl
theorem V4 {te:TE} {t:Nat} {env env':Env} {parts:List (Nat×Operand)} (h: ∀x∈parts.map (·.2),ev env x=ev env' x):Mn te t env parts=Mn te t env' parts:=by
 unfold Mn
 rw[O5 h]
theorem ND {te:TE} {t n:Nat} {env env':Env} {parts:List (Nat×Operand)} (h: ∀x∈parts.map (·.2),ev env x=ev env' x):DA te t n env parts=DA te t n env' parts:=by
 unfold DA
 rw[O5 h]
theorem Ie {env env':Env} {cl:Call} (h: ∀x∈cl.operands,ev env x=ev env' x):C6 c env cl=C6 c env' cl:=by
 have ha:evL env cl.args.toList=evL env' cl.args.toList:=Lm fun x hx=>h x (by simp only[Call.operands];simp;exact .inr (by simpa using hx))
 unfold C6
 rw[ha]
 split
 ·rename_i fo hc
  rw[h fo (by simp[Call.operands,hc])]
 ·rename_i ro name hc
  rw[h ro (by simp[Call.operands,hc])]
 ·rfl
def Ahz (te:TE) (t d:Nat) (p q:AV):Option (AV×St):=
 match R6 te t d p q [] []with
 |some (x,_,s)=>some (x,s)
 |none=>none
theorem Abe {te:TE} {t d:Nat} {p q x:AV} {nb:St} {env:Env} {σ:St} (h:Ahz te t d p q=some (x,nb)) (hl:look σ (2*d)=none):
  R6 te t d p q env σ=some (x,env,nb++σ)/\ ∃B,nb=[(2*d,B)]:=by
 unfold Ahz at h
 split at h
 ·rename_i y e s hm
  simp only[Option.some.injEq,Prod.mk.injEq]at h
  obtain⟨rfl,rfl⟩:=h
  unfold R6 at hm⊢
  split at hm
  ·split at hm
   ·split at hm
    ·split at hm
     ·split at hm
      ·split at hm
       ·split at hm
        ·rename_i h1
         split at hm
         ·rename_i h2
          simp[DF,look]at hm
          obtain⟨rfl,rfl,rfl⟩:=hm
          simp only[DF,hl,if_pos h1,if_pos h2]
          exact⟨Y,_,Y⟩
         ·cases hm
        ·cases hm
       ·cases hm
      ·cases hm
     ·cases hm
    ·cases hm
   ·cases hm
  ·cases hm
 ·cases h
def ZM (te:TE) (t d:Nat) (p q:T):Option (AV×St):=
 match look te t with
 |some ⟨_,_,_,.slice e⟩=>match look te e with
  |some ei=>match L7 [] ei.size (.t q)with
   |some news=>match p with
    |.slice .nil _ _=>if news.length*(ei.bytes+1)<=140737488355328 then some (.row (2*d) ei.size 0 news.length,[(2*d,.grow ei.size news)])else none
    |.slice .full sz' es=>(match sz' with
     |0=>(match es with
      |[]=>if news.length*(ei.bytes+1)<=140737488355328 then some (.row (2*d) ei.size 0 news.length,[(2*d,.grow ei.size news)])else none
      |_::_=>none)
     |_+1=>if sz'=ei.size then(if(es.length+news.length)*(ei.bytes+1)<=140737488355328 then some (.t (.slice .any ei.size (es++news)),[])else none)else none)
    |_=>none
   |none=>none
  |none=>none
 |_=>none
theorem XY {te:TE} {t d:Nat} {p q:T} {x:AV} {nb:St} {env:Env} {σ:St} (h:ZM te t d p q=some (x,nb)) (hl:look σ (2*d)=none):
  GI te t d (.t p) (.t q) env σ=some (x,env,nb++σ)/\(nb=[]\/ ∃B,nb=[(2*d,B)]):=by
 unfold ZM at h
 unfold GI
 have hn: ∀sz,L7 σ sz (.t q)=L7 [] sz (.t q):=fun sz=>by cases q<;>rfl
 split at h
 ·rename_i i1 i2 i3 e hte
  simp only[hte]
  split at h
  ·rename_i ei hei
   simp only[hei,hn]
   split at h
   ·rename_i news hnews
    simp only[hnews]
    split at h
    ·split at h
     ·rename_i hb
      simp at h;obtain⟨rfl,rfl⟩:=h
      simp[hb,DF,hl]
     ·simp at h
    ·split at h
     ·split at h
      ·split at h
       ·rename_i hb
        simp at h;obtain⟨rfl,rfl⟩:=h
        simp[hb,DF,hl]
       ·simp at h
      ·simp at h
     ·split at h
      ·rename_i n1 hsz
       have hsz':n1+1=ei.size:=hsz
       split at h
       ·rename_i hb
        simp at h;obtain⟨rfl,rfl⟩:=h
        simp[hsz',hb]
       ·simp at h
      ·simp at h
    ·simp at h
   ·simp at h
  ·simp at h
 ·simp at h
def T6 (te:TE) (t:Nat) (news:List Nat) (p:AV) (σ:St):Option AV:=
 match p with
 |.ref b _=>(match FC b news with
  |true=>none
  |false=>I4 te t p σ)
 |.eref b _ _ _=>(match FC b news with
  |true=>none
  |false=>I4 te t p σ)
 |.t _=>I4 te t p σ
 |_=>none
def GC (dst:Option Nat) (r:AV) (σ2 σ:St):Option (AV×St):=
 match dst with
 |some d=>match r with
  |.row cl sz lo n=>match look σ2 cl with
   |some (.grow sz' es)=>match Nat.ble cl (2*d)with
    |true=>match look σ (2*d)with
     |none=>some (.row (2*d) sz lo n,[(2*d,.grow sz' es)])
     |some _=>none
    |false=>none
   |_=>none
  |_=>none
 |none=>none
theorem Ns {dst:Option Nat} {r x:AV} {σ2 σ nb:St} (h:GC dst r σ2 σ=some (x,nb)): ∃d cl sz lo n sz' es,dst=some d/\r=.row cl sz lo n/\look σ2 cl=some (.grow sz' es)/\cl<=2*d/\look σ (2*d)=none/\x=.row (2*d) sz lo n/\nb=[(2*d,.grow sz' es)]:=by
 unfold GC at h
 split at h
 ·rename_i d
  split at h
  ·rename_i cl sz lo n
   split at h
   ·rename_i sz' es hl
    split at h
    ·rename_i hb
     split at h
     ·rename_i hn
      simp at h
      exact⟨d,cl,sz,lo,n,sz',es,Y,Y,hl,by simpa using hb,hn,h.1.symm,h.2.symm⟩
     ·cases h
    ·cases h
   ·cases h
  ·cases h
 ·cases h
def ZE (te:TE) (t u:Nat) (x:Option AV):Option AV:=
 match x with
 |some (.t (.str b))=>match look te t with
  |some ⟨_,_,_,.string⟩=>match look te u with
   |some ⟨_,_,_,.slice e⟩=>match look te e with
    |some ⟨_,_,_,.int .u8⟩=>some (.t (.slice .any 1 (b.map fun c=>[T.int .u8 (c.toNat:Int)])))
    |_=>none
   |_=>none
  |_=>none
 |_=>none
def BW (c:Conf) (cf:Nat->List AV->St->Option (AV×St)) (news:List Nat) (o:Oper) (env:Env) (σ:St):Option (AV×St):=
 match o.op with
 |.alloc t=>match o.dst with
  |some d=>match look c.te t with
   |some ti=>match look σ (2*d)with
    |none=>some (.ref (2*d) 0,[(2*d,.cells (Ah ti.zero))])
    |some _=>none
   |none=>none
  |none=>none
 |.box t x=>match o.dst with
  |some d=>match ev env x with
   |some y=>match J0 y with
    |some cs=>match FC t c.imm with
     |true=>match allT cs with
      |some ts=>some (.t (.ptr ts),[])
      |none=>none
     |false=>match look σ (2*d)with
      |none=>some (.ref (2*d) 0,[(2*d,.cells cs)])
      |some _=>none
    |none=>none
   |none=>none
  |none=>none
 |.build t parts=>match Mn c.te t env parts.toList with
  |some x=>some (x,[])
  |none=>none
 |.buildSlice t n parts=>match DA c.te t n env parts.toList with
  |some x=>some (x,[])
  |none=>none
 |.load t p=>match ev env p with
  |some q=>match T6 c.te t news q σ with
   |some x=>some (x,[])
   |none=>none
  |none=>none
 |.store _ _ _=>none
 |.makeSlice t l k=>match o.dst with
  |some d=>match ev env l with
   |some p=>match ev env k with
    |some q=>match look σ (2*d)with
     |none=>Ahz c.te t d p q
     |some _=>none
    |none=>none
   |none=>none
  |none=>none
 |.call cl=>match cl.callee with
  |.builtin .append=>match cl.args.toList,cl.argTypes.toList,o.dst with
   |[s,x],[t,t'],some d=>if t=t' then(match ev env s,ev env x with
    |some (.t p),some (.t q)=>match look σ (2*d)with
     |none=>ZM c.te t d p q
     |some _=>none
    |_,_=>none)else none
   |_,_,_=>none
  |.builtin _=>match Ce c.te o.op env with
   |some x=>some (x,[])
   |none=>none
  |_=>match C6 c env cl with
   |some (f,as)=>match D7 as with
    |true=>match cf f as []with
     |some (r,σ2)=>match r.free with
      |true=>some (r,[])
      |false=>GC o.dst r σ2 σ
     |none=>none
    |false=>none
   |none=>none
 |.convert t u x=>match ZE c.te t u (ev env x)with
  |some y=>some (y,[])
  |none=>match Ce c.te o.op env with
   |some x=>some (x,[])
   |none=>none
 |_=>match Ce c.te o.op env with
  |some x=>some (x,[])
  |none=>none
def C0 (o:Oper):List Nat:=
 match o.op with
 |.alloc _=>(match o.dst with
  |some d=>[2*d]
  |none=>[])
 |.box _ _=>(match o.dst with
  |some d=>[2*d]
  |none=>[])
 |.call _=>(match o.dst with
  |some d=>[2*d]
  |none=>[])
 |.makeSlice _ _ _=>(match o.dst with
  |some d=>[2*d]
  |none=>[])
 |_=>[]
theorem Hg {n:Nat}: ∀{l:List Nat},FC n l=true↔n∈l
 |[]=>by simp[FC]
 |k::r=>by
  by_cases h:k=n
  ·subst h;simp[FC]
  ·simp only[FC,Cr h,cond_false,List.mem_cons]
   rw[Hg]
   constructor
   ·exact .inr
   ·rintro(h'|h')
    ·exact absurd h'.symm h
    ·exact h'
theorem WI {te:TE} {t:Nat} {news:List Nat} {p:AV} {σ σ':St} (h: ∀b,b∉news->look σ b=look σ' b):T6 te t news p σ=T6 te t news p σ':=by
 unfold T6
 split
 ·rename_i b off
  split
  ·rfl
  ·rename_i hm
   have hb:look σ b=look σ' b:=h b (fun hc=>by rw[Hg.2 hc]at hm;cases hm)
   unfold I4
   simp only[hb]
 ·rename_i b sz k off
  split
  ·rfl
  ·rename_i hm
   have hb:look σ b=look σ' b:=h b (fun hc=>by rw[Hg.2 hc]at hm;cases hm)
   unfold I4
   simp only[hb]
 ·rename_i x
  unfold I4
  cases look te t with
  |none=>rfl
  |some ti=>cases x<;>rfl
 ·rfl
theorem Fh {news:List Nat} {o:Oper} {env env':Env} {σ σ':St} (h: ∀x∈o.op.operands,ev env x=ev env' x) (hs: ∀b,b∉news->look σ b=look σ' b)
  (hn: ∀b∈C0 o,look σ b=look σ' b):BW c cf news o env σ=BW c cf news o env' σ':=by
 unfold BW
 split
 ·rename_i t ho
  split
  ·rename_i d hd
   rw[hn (2*d) (by simp[C0,ho,hd])]
  ·rfl
 ·rename_i t x ho
  split
  ·rename_i d hd
   rw[h x (by simp[ho,Op.operands]),hn (2*d) (by simp[C0,ho,hd])]
  ·rfl
 ·rename_i t parts ho
  rw[V4 fun x hx=>h x (by simp[ho,Op.operands];simpa using hx)]
 ·rename_i t n parts ho
  rw[ND fun x hx=>h x (by simp[ho,Op.operands];simpa using hx)]
 ·rename_i t p ho
  rw[h p (by simp[ho,Op.operands])]
  split
  ·rw[WI hs]
  ·rfl
 ·rfl
 ·rename_i t l k ho
  split
  ·rename_i d hd
   rw[h l (by simp[ho,Op.operands]),h k (by simp[ho,Op.operands]),hn (2*d) (by simp[C0,ho,hd])]
  ·rfl
 ·rename_i cl ho
  have hop: ∀x∈cl.operands,ev env x=ev env' x:=fun x hx=>h x (by rw[ho];exact hx)
  split
  ·rename_i hc
   split
   ·rename_i s x t t' d ha ht hd
    have hm: ∀y,y∈cl.args.toList->y∈cl.operands:=fun y hy=>by simp only[Call.operands];simp;exact .inr (by simpa using hy)
    rw[hop s (hm s (by rw[ha];simp)),hop x (hm x (by rw[ha];simp)),hn (2*d) (by simp[C0,ho,hd])]
   ·rfl
  ·rw[Ka h]
  ·have hh: ∀r σ2,GC o.dst r σ2 σ=GC o.dst r σ2 σ':=fun r σ2=>by
    unfold GC
    split
    ·rename_i d hd;rw[hn (2*d) (by simp[C0,ho,hd])]
    ·rfl
   simp only[Ie hop,hh]
 ·rename_i t u x ho
  rw[h x (by simp[ho,Op.operands]),Ka h]
 ·rw[Ka h]
theorem Al0 {te:TE} {t:Nat} {news:List Nat} {p x:AV} {σ:St} (h:T6 te t news p σ=some x):I4 te t p σ=some x:=by
 unfold T6 at h
 split at h
 ·split at h
  ·simp at h
  ·exact h
 ·split at h
  ·simp at h
  ·exact h
 ·exact h
 ·simp at h
theorem Q4 {news:List Nat} {o:Oper} {env:Env} {σ nb:St} {x:AV} (h:BW c cf news o env σ=some (x,nb)):nb=[]\/ ∃d B,o.dst=some d/\nb=[(2*d,B)]/\C0 o=[2*d]/\look σ (2*d)=none:=by
 unfold BW at h
 split at h
 ·rename_i t ho
  split at h
  ·rename_i d hd
   split at h
   ·split at h
    ·rename_i hl
     simp at h;exact .inr ⟨d,_,hd,h.2.symm,by simp[C0,ho,hd],hl⟩
    ·simp at h
   ·simp at h
  ·simp at h
 ·rename_i t y ho
  split at h
  ·rename_i d hd
   split at h
   ·split at h
    ·split at h
     ·split at h
      ·simp at h;exact .inl h.2
      ·simp at h
     ·split at h
      ·rename_i hl
       simp at h;exact .inr ⟨d,_,hd,h.2.symm,by simp[C0,ho,hd],hl⟩
      ·simp at h
    ·simp at h
   ·simp at h
  ·simp at h
 ·split at h
  ·simp at h;exact .inl h.2
  ·simp at h
 ·split at h
  ·simp at h;exact .inl h.2
  ·simp at h
 ·split at h
  ·split at h
   ·simp at h;exact .inl h.2
   ·simp at h
  ·simp at h
 ·simp at h
 ·rename_i t l k ho
  split at h
  ·rename_i d hd
   split at h
   ·split at h
    ·split at h
     ·rename_i hl
      obtain⟨_,B,hB⟩:=Abe (env:=env) h hl
      exact .inr ⟨d,B,hd,hB,by simp[C0,ho,hd],hl⟩
     ·cases h
    ·cases h
   ·cases h
  ·cases h
 ·rename_i cl ho
  split at h
  ·rename_i hc
   split at h
   ·rename_i s y t t' d ha ht hd
    split at h
    ·split at h
     ·split at h
      ·rename_i hl
       obtain⟨_,hB|⟨B,hB⟩⟩:=XY (env:=env) h hl
       ·exact .inl hB
       ·exact .inr ⟨d,B,hd,hB,by simp[C0,ho,hd],hl⟩
      ·simp at h
     ·simp at h
    ·simp at h
   ·simp at h
  ·split at h
   ·simp at h;exact .inl h.2
   ·simp at h
  ·split at h
   ·split at h
    ·split at h
     ·split at h
      ·simp at h;exact .inl h.2
      ·obtain⟨d,cl',sz,lo,n,sz',es,q1,q2,q3,q4,q5,q6,q7⟩:=Ns h
       exact .inr ⟨d,_,q1,q7,by simp[C0, *],q5⟩
     ·simp at h
    ·simp at h
   ·simp at h
 ·split at h
  ·simp at h;exact .inl h.2
  ·split at h
   ·simp at h;exact .inl h.2
   ·simp at h
 ·split at h
  ·simp at h;exact .inl h.2
  ·simp at h
theorem ZD (hte:CX P c.te) {w:World} {g:G} {σ:St} (hi:Inv w g σ) {a:Act} {env:Env} (he:AK w g a env) {t u:Nat} {xo:Operand} {o:Oper} {y:AV} (ho:o.op=.convert t u xo) (h:ZE c.te t u (ev env xo)=some y):
  BJ P o a w fun v w'=> ∃g',Ext w g w' g'/\Rel w' g' v y/\Inv w' g' σ/\AK w' g' a env:=by
 unfold ZE at h
 split at h
 ·rename_i b hx
  split at h
  ·rename_i a1 a2 a3 ht
   split at h
   ·rename_i a4 a5 a6 e hu
    split at h
    ·rename_i a7 a8 a9 hel
     simp at h;subst h
     have h1:P.underlying t=some .string:=by
      obtain⟨dd,hdd,hdk⟩:=(hte _ _ ht).und'
      cases dd<;>simp[Dj]at hdk;exact hdd
     have h2:P.underlying u=some (.slice e):=by
      obtain⟨dd,hdd,hdk⟩:=(hte _ _ hu).und'
      cases dd<;>simp[Dj]at hdk;subst hdk;exact hdd
     have h3:P.underlying e=some (.int .u8):=by
      obtain⟨dd,hdd,hdk⟩:=(hte _ _ hel).und'
      cases dd<;>simp[Dj]at hdk;subst hdk;exact hdd
     have hs:=Fm (AG he hx)
     have hrun:=run_bytes_of_string (P:=P) w t u e ⟨b.toArray⟩ h1 h2 h3
     have hge:=grownCap_ge w b.length 0 e
     generalize hcap:grownCap w (ByteArray.size ⟨b.toArray⟩) 0 e=cap at hrun
     have hsz:(ByteArray.size ⟨b.toArray⟩)=b.length:=by simp[ByteArray.size]
     rw[hsz]at hcap hrun
     rw[hcap]at hge
     have hm:=A1u w (.cells (bytesRow ⟨b.toArray⟩ cap) e ((bytesRow ⟨b.toArray⟩ cap).size,(bytesRow ⟨b.toArray⟩ cap).size+1))
     obtain⟨k1,k2,k3⟩:=Ez hi hm
     refine BJ.value (by simp only[execOp,ho,hs,Sem.run_bind,hrun,Result.andThen_ok];rfl) ⟨g,k1,.t _ _ ?_,k2,fun q x hq=>k3 _ _ (he q x hq)⟩
     have hfl:(b.map fun c=>[T.int .u8 (c.toNat:Int)]).flatten=b.map fun c=>T.int .u8 (c.toNat:Int):=by
      clear hs hrun hsz hcap hge hm k1 k2 k3 hx
      induction b with
      |nil=>rfl
      |cons x r ih=>simp only[List.map_cons,List.flatten_cons,ih,List.singleton_append]
     have hM: ∀o,¬g.M w.heap.size o:=fun o hM=>by
      have:w.heap.size<w.heap.size:=by
       rcases hM with h|h
       ·exact hi.lt _ (.inl h.1)
       ·exact hi.lt _ (.inr ⟨_,h⟩)
      omega
     refine .slice w.heap.size 0 b.length cap .any 1 _ (fun i=>Value.int .u8 ((b.getD i 0).toNat:Int)) (List.length_map ..) hge (fun h=>by cases h) (fun h=>by cases h) (fun _ _ h=>by cases h) (fun x hx=>by simp at hx;obtain⟨z,_,rfl⟩:=hx;rfl) (fun i x hx=>?_) (fun i x hx=>⟨hM _,?_⟩) (fun i x hx=>?_)
     all_goals rw[hfl,List.getElem?_map]at hx
     all_goals obtain⟨z,hz,rfl⟩:=Option.map_eq_some_iff.1 hx
     ·rfl
     ·have hlt:=(List.getElem?_eq_some_iff.1 hz).1
      have hcell:(bytesRow ⟨b.toArray⟩ cap)[i]?=some (Value.int .u8 ((b.getD i 0).toNat:Int)):=by
       simp[bytesRow,Array.getElem?_append,hlt,List.getD,hz]
      have hn:=hm.new
      unfold World.cell?
      simp only[Nat.zero_add]
      rw[hn]
      exact hcell
     ·have:b.getD i 0=z:=by simp[List.getD,hz]
      show RelT _ _ (Value.int .u8 ((b.getD i 0).toNat:Int)) _
      rw[this];exact .int _ _
    ·simp at h
   ·simp at h
  ·simp at h
 ·simp at h
theorem FU (hp:ProgOk P c) (hcf:EB P cf) {w:World} {g:G} {σ:St} (hi:Inv w g σ) {a:Act} {env:Env} (he:AK w g a env) {news:List Nat} {o:Oper} {x:AV} {nb:St}
  (h:BW c cf news o env σ=some (x,nb)):BJ P o a w fun v w'=> ∃g',Ext w g w' g'/\Rel w' g' v x/\Inv w' g' (nb++σ)/\AK w' g' a env:=by
 have pcase: ∀x,Ce c.te o.op env=some x->BJ P o a w fun v w'=> ∃g',Ext w g w' g'/\Rel w' g' v x/\Inv w' g' σ/\AK w' g' a env:=fun x hx=>by
  obtain⟨v,h1,h2⟩:=QY (P:=P) hp.te he hx
  exact BJ.value h1 ⟨g,A1t _ _,h2,hi,he⟩
 have mcase: ∀x env' σ',F1 c.toCfg o env σ=some (x,env',σ')->BJ P o a w (ER w g a x env' σ'):=fun x env' σ' hm=>EW hp.te hi he hm
 unfold BW at h
 split at h
 ·rename_i t ho
  split at h
  ·rename_i d hd
   split at h
   ·rename_i ti hl
    split at h
    ·rename_i hlk
     simp at h;obtain⟨rfl,rfl⟩:=h
     exact mcase _ env ((2*d,.cells (Ah ti.zero))::σ) (by simp[F1,ho,hd,hl,DF,hlk,KW])
    ·simp at h
   ·simp at h
  ·simp at h
 ·rename_i t y ho
  split at h
  ·rename_i d hd
   split at h
   ·rename_i z hz
    split at h
    ·rename_i cs hcs
     split at h
     ·rename_i hm
      split at h
      ·rename_i ts hts
       simp at h;obtain⟨rfl,rfl⟩:=h
       exact mcase _ env σ (by simp[F1,ho,hd,hm,hz,hcs,hts])
      ·simp at h
     ·rename_i hm
      split at h
      ·rename_i hlk
       simp at h;obtain⟨rfl,rfl⟩:=h
       exact mcase _ env ((2*d,.cells cs)::σ) (by simp[F1,ho,hd,hm,DF,hlk,hz,hcs,KW])
      ·simp at h
    ·simp at h
   ·simp at h
  ·simp at h
 ·rename_i t parts ho
  split at h
  ·rename_i z hz
   simp at h;obtain⟨rfl,rfl⟩:=h
   exact mcase _ env σ (by simp[F1,ho,hz])
  ·simp at h
 ·rename_i t n parts ho
  split at h
  ·rename_i z hz
   simp at h;obtain⟨rfl,rfl⟩:=h
   exact mcase _ env σ (by simp[F1,ho,hz])
  ·simp at h
 ·rename_i t p ho
  split at h
  ·rename_i q hq
   split at h
   ·rename_i z hz
    simp at h;obtain⟨rfl,rfl⟩:=h
    exact mcase _ env σ (by simp[F1,ho,hq,Al0 hz])
   ·simp at h
  ·simp at h
 ·simp at h
 ·rename_i t l k ho
  split at h
  ·rename_i d hd
   split at h
   ·rename_i p hq
    split at h
    ·rename_i q hq2
     split at h
     ·rename_i hl
      obtain⟨hm,_⟩:=Abe (env:=env) h hl
      exact mcase _ env (nb++σ) (by simp[F1,ho,hd,hq,hq2,hm])
     ·cases h
    ·cases h
   ·cases h
  ·cases h
 ·rename_i cl ho
  split at h
  ·rename_i hcl
   split at h
   ·rename_i s y t t' d ha ht hd
    split at h
    ·rename_i htt
     split at h
     ·rename_i p q hs hy
      split at h
      ·rename_i hl
       obtain⟨h1,_⟩:=XY (env:=env) h hl
       refine mcase _ env (nb++σ) ?_
       simp[F1,ho,hcl,ha,hs,hy,ht,hd,htt]
       subst htt;exact h1
      ·simp at h
     ·simp at h
    ·simp at h
   ·simp at h
  ·split at h
   ·rename_i z hz
    simp at h;obtain⟨rfl,rfl⟩:=h
    exact pcase _ hz
   ·simp at h
  ·split at h
   ·rename_i f as hc
    split at h
    ·rename_i hfree
     split at h
     ·rename_i r σ2 hr
      split at h
      ·rename_i hrf
       simp at h;obtain⟨rfl,rfl⟩:=h
       obtain⟨⟨fn,hf,hb⟩,hca⟩:=hcf _ _ _ _ _ hr
       obtain⟨vs,hrun,hrel⟩:=C5 hp he hc ho hf hb
       refine BJ.enter hrun ((hca vs w g.pureIn ⟨hrel.1,fun i v x hv hx=>?_⟩ (Jf hi)).mono ?_)
       ·exact(hrel.2 i v x hv hx).free (fun b o v h1 h2=>⟨fun h=>h1 ((NJ b o).1 h),h2⟩) (E0 hfree i x hx)
       ·rintro e w' ⟨v,g',rfl,h1,h2,h3⟩
        obtain⟨k1,k2,k3,k4⟩:=QZ hi h3 h1
        exact⟨v,Y,_,k1,k4 _ _ h2 hrf,k2,he.mono k3⟩
      ·obtain⟨d,cl',sz,lo,n,sz',es,q1,rfl,q3,q4,q5,rfl,rfl⟩:=Ns h
       obtain⟨⟨fn,hf,hb⟩,hca⟩:=hcf _ _ _ _ _ hr
       obtain⟨vs,hrun,hrel⟩:=C5 hp he hc ho hf hb
       refine BJ.enter hrun ((hca vs w g.pureIn ⟨hrel.1,fun i v x hv hx=>?_⟩ (Jf hi)).mono ?_)
       ·exact(hrel.2 i v x hv hx).free (fun b o v h1 h2=>⟨fun h=>h1 ((NJ b o).1 h),h2⟩) (E0 hfree i x hx)
       ·rintro e w' ⟨v,g',rfl,h1,h2,h3⟩
        obtain⟨k1,k2,k3,k4⟩:=QZ hi h3 h1
        have hMM:=NX hi h1
        have hk:cl'+(2*d-cl')=2*d:=by omega
        obtain⟨m1,m2,m3⟩:=RM (k:=2*d-cl') (τ:=[(cl',.grow sz' es)]) k2 (fun b B hB=>by
         rw[Ao]at hB
         split at hB
         ·rename_i e;subst e;cases hB;exact⟨⟨_,_,Y⟩,h3.ok _ _ q3⟩
         ·simp[look]at hB) h3.inj (by simp[shS,OA,hk,q5]) hMM (fun b hb=>.inr hb) (fun c blk p2=>by
         have h2':=(E9 h3 p2).2.1
         have hno: ¬g.own blk:=fun q1=>h1.own blk (hi.lt blk (.inl q1)) h2'
         simp only[G.pureOut,hno,if_false]
         exact h3.sx.bs c blk p2) (fun b c blk p1 p2=>by
         have h1':=(E9 hi p1).1
         have h2':=(E9 h3 p2).2.1
         exact h1.own blk h1' h2')
        have hr2:=m3 _ _ h2 (by simp[inA,look])
        simp only[shA,hk]at hr2
        simp only[shS,hk,List.cons_append,List.nil_append]at m1
        refine⟨v,Y,(g.pureOut g').hand g' (2*d-cl') [(cl',.grow sz' es)],⟨k1.size,k1.keep,k1.own,k1.oth,k1.shape,fun b hb=>⟨hb,?_⟩,⟨Y,k1.lo.2⟩,k1.sp⟩,hr2,m1,(he.mono k3).mono m2⟩
        obtain⟨_,cs,q⟩:=hi.bx b hb
        have hne:2*d≠b:=fun e=>by rw[<-e,q5]at q;cases q
        simp only[G.hand,shS,hk,Ao,if_neg hne,look]
        rfl
     ·simp at h
    ·simp at h
   ·simp at h
 ·rename_i t u y ho
  split at h
  ·rename_i z hz
   simp at h;obtain⟨rfl,rfl⟩:=h
   exact ZD hp.te hi he ho hz
  ·split at h
   ·rename_i z hz
    simp at h;obtain⟨rfl,rfl⟩:=h
    exact pcase _ hz
   ·simp at h
 ·split at h
  ·rename_i z hz
   simp at h;obtain⟨rfl,rfl⟩:=h
   exact pcase _ hz
  ·simp at h
end
end Go.Am
