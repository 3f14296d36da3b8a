/- Contracts and laws, joined: Hw17, Hw18, Ay, Hw19. No condition beside those that each theorem names. -/
import Derived.Test.YtpdmaenhenfofaaGreatDoorZM6
set_option linter.unusedVariables false
set_option linter.unusedSimpArgs false
namespace Go.Am
abbrev Rt:=Nat×Nat×Nat
section
variable {P:Program} {c:Conf} {te:TE} {w w':World} {g:G} {σ:St}
theorem G.M_own {g:G} {b o:Nat} (h:g.own b) (hd: ¬g.oth b o) {e:Nat} (hs:g.sp b=some e) (hlt:o<e): ¬g.M b o:=by
 rintro(⟨_,h2⟩|h2)
 ·have:=h2 e hs;omega
 ·exact hd h2
def G.give (g:G) (b blk e:Nat):G:={g with β:=fun c=>if c=b then none else g.β c,sp:=fun c=>if c=blk then some e else g.sp c}
theorem Ad9 (hi:Inv w g σ) {b ρ sz:Nat} {es:List (List T)} {L:List Rt} (hb:look σ b=some (.grow sz es)) (hρ:look σ ρ=some (.rights L)) (hne:es≠[]):
  ∃blk N,(∀q∈L,q.1≠blk)∧ ∃g',Ext w g w g'∧(∀L':List Rt,(L'.map Prod.fst).Nodup→(∀q∈L',q=(blk,N,es.length*sz)∨q∈L)→Inv w g' (upd (Fh b sz es σ) ρ (.rights L')))∧
   (∀v x,Rel w g v x→Rel w g' v (BA b sz es x))∧(∀v,Rel w g v (.row b sz 0 es.length)→Rel w g' v (.t (.slice (.phys blk N) sz es))):=by
 obtain⟨hall,hor⟩:=hi.ok b _ hb
 rcases hor with⟨_,h1⟩|⟨blk,vs,et,h1,h2,h3,h4,h5⟩
 ·exact absurd h1 hne
 have hfl:=Cb sz es hall
 have hnb: ¬g.bx b:=fun h=>by obtain⟨cs,h'⟩:=(hi.bx _ h).2;rw[hb]at h';cases h'
 have hneb: ∀c,g.bx c→c≠b:=fun c hc e=>hnb (e▸hc)
 have hsp:=hi.sx.bs _ _ h1
 have hfresh: ∀q∈L,q.1≠blk:=fun q hq e=>by
  have:=((hi.sx.ok ρ L hρ).2 q hq).2.1
  rw[e,hsp]at this;cases this
 have hbρ:ρ≠b:=fun e=>by subst e;rw[hρ]at hb;cases hb
 have hext:Ext w g w (g.give b blk (es.length*sz)):=⟨Nat.le_refl _,fun _ _ _=>rfl,fun _ _ h=>h,fun _ _=>Iff.rfl,fun _ _ h=>h,fun c hc=>⟨hc,by simp[G.give,hneb c hc]⟩,⟨rfl,rfl,rfl⟩,
  fun c e _ _ he=>⟨fun _ _=>rfl,fun _=>⟨e,by
   have hc:c≠blk:=fun e'=>by subst e';rw[hsp]at he;cases he
   simp[G.give,hc,he],Nat.le_refl _⟩⟩⟩
 have hM: ∀i,i<es.flatten.length→ ¬(g.give b blk (es.length*sz)).M blk i:=fun i hlt=>
  G.M_own (g:=g.give b blk (es.length*sz)) h2 (hi.dis _ _ h2) (e:=es.length*sz) (by simp[G.give]) (by rw[←hfl];exact hlt)
 have hβ: ∀c p,c≠b→g.β c=some p→(g.give b blk (es.length*sz)).β c=some p:=fun c p q1 q2=>by simp[G.give,q1,q2]
 have hr:=Xu hi hb hext.keeps hβ (fun blk' hb' i hlt=>by rw[h1]at hb';cases hb';exact hM i hlt)
 refine⟨blk,vs.size,hfresh,_,hext,fun L' hnd hL'=>?_,hr,fun v hv=>?_⟩
 ·refine⟨fun d C hC=>?_,fun d=>?_,fun d d' blk' q1 q2=>?_,hi.lt,fun d hd=>?_,hi.dis,hi.im_of hext.keeps,hi.lo,⟨fun blk' e he=>?_,fun d blk' q=>?_,fun d d' L1 L2 blk' e e' q1 q2 q3 q4=>?_,fun d L1 q=>?_⟩⟩
  ·rw[AG]at hC
   split at hC
   ·rename_i e;subst e;cases hC
    show(g.give b blk (es.length*sz)).β ρ=some none
    exact hβ _ _ hbρ (hi.ok ρ _ hρ)
   ·rw[Dw]at hC
    split at hC
    ·cases hC
    ·rename_i hdb
     cases hl:look σ d with
     |none=>simp[hl]at hC
     |some D=>
      simp only[hl,Option.map_some,Option.some.injEq]at hC
      subst hC
      have hokc:=hi.ok d D hl
      cases D with
      |cells cs=>
       obtain⟨bk,us,e,k1,k2,k3,k4,k5⟩:=hokc
       refine⟨bk,us,e,hβ _ _ hdb k1,k2,k3,by rw[FG];exact k4,fun i v x hv hx=>?_⟩
       rw[FH]at hx
       cases hg:cs[i]? with
       |none=>simp[hg]at hx
       |some y=>simp[hg]at hx;subst hx;exact hr _ _ (k5 i v y hv hg)
      |grow sz' es'=>
       obtain⟨k0,k⟩:=hokc
       refine⟨k0,?_⟩
       rcases k with⟨k1,k2⟩|⟨bk,us,e,k1,k2,k3,k4,k5⟩
       ·exact .inl ⟨hβ _ _ hdb k1,k2⟩
       ·exact .inr ⟨bk,us,e,hβ _ _ hdb k1,k2,k3,k4,fun i v x hv hx=>⟨(k5 i v x hv hx).1,(k5 i v x hv hx).2.mono hext.keeps⟩⟩
      |rights L0=>exact hβ _ _ hdb hokc
      |loop l st pe ps asg bd n env=>
       obtain⟨r,k1,k2,k3,k4,k5,k6⟩:=hokc
       refine⟨r,hβ _ _ hdb k1,k2,k3,k4,k5,fun t x ht=>?_⟩
       rw[E3]at ht
       cases hg:look env t with
       |none=>simp[hg]at ht
       |some y=>simp[hg]at ht;subst ht;exact hr _ _ (k6 t y hg)
  ·rw[AG]
   by_cases e:ρ=d
   ·subst e
    have:=hβ _ _ hbρ (hi.ok ρ _ hρ)
    simp[this]
   ·rw[if_neg e,Dw]
    by_cases e2:d=b
    ·simp[e2,G.give]
    ·simp only[if_neg e2,G.give]
     rw[←hi.dom d];cases look σ d<;>rfl
  ·simp only[G.give]at q1 q2
   split at q1
   ·cases q1
   ·split at q2
    ·cases q2
    ·exact hi.inj _ _ _ q1 q2
  ·obtain⟨k1,cs,k2⟩:=hi.bx d hd
   have hdρ:ρ≠d:=fun e=>by subst e;rw[hρ]at k2;cases k2
   exact⟨k1,DD b sz es cs,by rw[AG,if_neg hdρ,Dw,if_neg (hneb d hd),k2];rfl⟩
  ·simp only[G.give]at he
   split at he
   ·rename_i e';subst e';exact CW h3
   ·exact hi.sx.lt _ _ he
  ·simp only[G.give]at q⊢
   split at q
   ·cases q
   ·rename_i hdb
    have hne':blk'≠blk:=fun e=>by subst e;exact hdb (hi.inj _ _ _ q h1)
    rw[if_neg hne'];exact hi.sx.bs _ _ q
  ·have two: ∀d L1,look (upd (Fh b sz es σ) ρ (.rights L')) d=some (.rights L1)→(d=ρ∧L1=L')∨(d≠ρ∧look σ d=some (.rights L1)):=by
    intro d L1 q
    rw[AG]at q
    split at q
    ·rename_i e;subst e;cases q;exact .inl ⟨rfl,rfl⟩
    ·rename_i hdρ
     refine .inr ⟨Ne.symm hdρ,?_⟩
     rw[Dw]at q
     split at q
     ·cases q
     ·cases hl:look σ d with
      |none=>simp[hl]at q
      |some D=>simp only[hl,Option.map_some,Option.some.injEq]at q;cases D<;>simp[Ad7]at q;rw[q]
   have other: ∀d L1 blk' e e',d≠ρ→look σ d=some (.rights L1)→(blk',e)∈L'→(blk',e')∈L1→False:=by
    intro d L1 blk' e e' k1 k2 k3 k4
    rcases hL' _ k3 with k|k
    ·cases k
     have:=((hi.sx.ok d L1 k2).2 _ k4).2.1
     simp only at this;rw[hsp]at this;cases this
    ·exact k1 (hi.sx.one _ _ _ _ _ _ _ k2 hρ k4 k)
   rcases two _ _ q1 with⟨rfl,rfl⟩|⟨k1,k2⟩<;>rcases two _ _ q2 with⟨rfl,rfl⟩|⟨k3,k4⟩
   ·rfl
   ·exact(other _ _ _ _ _ k3 k4 q3 q4).elim
   ·exact(other _ _ _ _ _ k1 k2 q4 q3).elim
   ·exact hi.sx.one _ _ _ _ _ _ _ k2 k4 q3 q4
  ·rw[AG]at q
   have keep: ∀L2 d,look σ d=some (.rights L2)→ ∀p∈L2,(g.give b blk (es.length*sz)).own p.1∧(g.give b blk (es.length*sz)).sp p.1=some p.2.2∧ ∃us ty,w.heap[p.1]?=some (.cells us ty (0,0))∧us.size=p.2.1∧p.2.2≤p.2.1:=by
    intro L2 d hd p hp
    obtain⟨r1,r2,r3⟩:=(hi.sx.ok d L2 hd).2 p hp
    have hne':p.1≠blk:=fun e=>by rw[e,hsp]at r2;cases r2
    exact⟨r1,by simp[G.give,hne',r2],r3⟩
   split at q
   ·cases q
    refine⟨hnd,fun p hp=>?_⟩
    rcases hL' p hp with rfl|hp
    ·exact⟨h2,by simp[G.give],vs,et,h3,rfl,by rw[←hfl];exact h4⟩
    ·exact keep L ρ hρ p hp
   ·rw[Dw]at q
    split at q
    ·cases q
    ·cases hl:look σ d with
     |none=>simp[hl]at q
     |some D=>
      simp only[hl,Option.map_some,Option.some.injEq]at q;cases D<;>simp[Ad7]at q
      subst q
      exact⟨(hi.sx.ok d _ hl).1,keep _ d hl⟩
 ·refine(?_: ∀m,es.length=m→Rel w g v (.row b sz 0 m)→Rel w (g.give b blk (es.length*sz)) v (.t (.slice (.phys blk vs.size) sz es))) _ rfl hv
  intro m hm hv
  cases hv with
  |rowNil _ _ a ha hb'=>rw[h1]at hb';cases hb'
  |row _ _ _ _ blk' o cap e0 n h hs ho hl hn=>
   rw[h1]at h;cases h
   have hn0:n=vs.size:=by simp only[World.shape?,h3,Option.some.injEq,Prod.mk.injEq]at hs;exact hs.2.symm
   have ho':o=0∨es=[]:=by
    rcases ho with h'|h'
    ·left;simpa using h'
    ·right;exact List.eq_nil_of_length_eq_zero O
   rcases ho' with rfl|he0
   ·refine .t _ _ (Dr hm hl Z Z hall (fun i x hx=>?_) (fun p N hp=>by cases hp;exact⟨rfl,rfl,by rw[←hn0];simpa using hn⟩))
    have hlt:=Bw hx
    have hv:vs[i]?=some vs[i]:=Array.getElem?_eq_getElem O
    obtain⟨r1,r2⟩:=h5 i _ x hv hx
    refine⟨by rw[Nat.zero_add];exact hM i hlt,r1,vs[i],by rw[Nat.zero_add,CD h3];exact hv,r2.mono hext.keeps⟩
   ·exact absurd he0 hne
theorem NY (hi:Inv w g σ) {ρ:Nat} {L L':List Rt} (hρ:look σ ρ=some (.rights L)) {own':Nat→Prop} {sp':Nat→Option Nat} (hext:Ext w g w' {g with own:=own',sp:=sp'})
  (hheap: ∀c blk,g.β c=some (some blk)→w'.heap[blk]?=w.heap[blk]?) (hown: ∀blk,g.own blk→own' blk) (hlt: ∀blk,own' blk→blk<w'.heap.size) (hdis: ∀blk o,own' blk→ ¬g.oth blk o)
  (hsl: ∀blk e,sp' blk=some e→blk<w'.heap.size) (hsb: ∀c blk,g.β c=some (some blk)→sp' blk=none) (hnd:(L'.map Prod.fst).Nodup)
  (hnew: ∀q∈L',own' q.1∧sp' q.1=some q.2.2∧ ∃vs ty,w'.heap[q.1]?=some (.cells vs ty (0,0))∧vs.size=q.2.1∧q.2.2≤q.2.1)
  (hoth: ∀d L1,d≠ρ→look σ d=some (.rights L1)→ ∀q∈L1,sp' q.1=g.sp q.1∧w'.heap[q.1]?=w.heap[q.1]?∧ ∀e,(q.1,e)∉L'):
  Inv w' {g with own:=own',sp:=sp'} (upd σ ρ (.rights L'))∧(∀v x,Rel w g v x→Rel w' {g with own:=own',sp:=sp'} v x):=by
 have hr: ∀v x,Rel w g v x→Rel w' {g with own:=own',sp:=sp'} v x:=fun v x h=>h.mono hext.keeps (fun _ _ h=>h) hext.shape
 have two: ∀d L1,look (upd σ ρ (.rights L')) d=some (.rights L1)→(d=ρ∧L1=L')∨(d≠ρ∧look σ d=some (.rights L1)):=by
  intro d L1 q
  rw[AG]at q
  split at q
  ·rename_i e;subst e;cases q;exact .inl ⟨rfl,rfl⟩
  ·rename_i hdρ;exact .inr ⟨Ne.symm hdρ,q⟩
 refine⟨⟨fun d C hC=>?_,fun d=>?_,hi.inj,fun blk h=>?_,fun d hd=>?_,hdis,hi.im_of hext.keeps,Nat.le_trans hi.lo hext.size,⟨hsl,hsb,fun d d' L1 L2 blk e e' q1 q2 q3 q4=>?_,fun d L1 q=>?_⟩⟩,hr⟩
 ·rw[AG]at hC
  split at hC
  ·rename_i e;subst e;cases hC
   exact hi.ok ρ _ hρ
  ·exact E7.mono (g:=g) (g':={g with own:=own',sp:=sp'}) rfl (fun blk _ h=>hown blk h) (fun blk hb=>hheap d blk hb) hr (hi.ok d C hC)
 ·rw[AG]
  by_cases e:ρ=d
  ·subst e
   have:g.β ρ=some none:=hi.ok ρ _ hρ
   simp[this]
  ·rw[if_neg e];exact hi.dom d
 ·rcases h with h|⟨o,h⟩
  ·exact hlt blk h
  ·exact Nat.lt_of_lt_of_le (hi.lt blk (.inr ⟨o,h⟩)) hext.size
 ·obtain⟨k1,cs,k2⟩:=hi.bx d hd
  have hdρ:ρ≠d:=fun e=>by subst e;rw[hρ]at k2;cases k2
  exact⟨k1,cs,by rw[AG,if_neg hdρ];exact k2⟩
 ·rcases two _ _ q1 with⟨rfl,rfl⟩|⟨k1,k2⟩<;>rcases two _ _ q2 with⟨rfl,rfl⟩|⟨k3,k4⟩
  ·rfl
  ·exact((hoth _ _ k3 k4 _ q4).2.2 _ q3).elim
  ·exact((hoth _ _ k1 k2 _ q3).2.2 _ q4).elim
  ·exact hi.sx.one _ _ _ _ _ _ _ k2 k4 q3 q4
 ·rcases two _ _ q with⟨rfl,rfl⟩|⟨k1,k2⟩
  ·exact⟨hnd,hnew⟩
  ·obtain⟨r1,r2⟩:=hi.sx.ok d L1 k2
   refine⟨r1,fun p hp=>?_⟩
   obtain⟨m1,m2,m3⟩:=r2 p hp
   obtain⟨n1,n2,_⟩:=hoth d L1 k1 k2 p hp
   exact⟨hown _ m1,by show sp' p.1=_;rw[n1];exact m2,by rw[n2];exact m3⟩
theorem XW (hi:Inv w g σ) {ρ blk N e e':Nat} {L L':List Rt} (hρ:look σ ρ=some (.rights L)) (hp:(blk,N,e)∈L) {vs vs':Array Value} {et:TypeId} (hh:w.heap[blk]?=some (.cells vs et (0,0)))
  (hs:vs'.size=vs.size) (hpre: ∀i,i<e→vs'[i]?=vs[i]?) (hee:e≤e') (heN:e'≤N) (hw:Sets w w' blk vs' et) (hnd:(L'.map Prod.fst).Nodup) (hL': ∀q∈L',q=(blk,N,e')∨(q∈L∧q.1≠blk)):
  Ext w g w' {g with own:=g.own,sp:=fun c=>if c=blk then some e' else g.sp c}∧Inv w' {g with own:=g.own,sp:=fun c=>if c=blk then some e' else g.sp c} (upd σ ρ (.rights L'))∧
   (∀v x,Rel w g v x→Rel w' {g with own:=g.own,sp:=fun c=>if c=blk then some e' else g.sp c} v x):=by
 obtain⟨hnd0,hL0⟩:=hi.sx.ok ρ L hρ
 obtain⟨o1,o2,vs0,ty0,o3,o4,o5⟩:=hL0 _ hp
 (try simp only at o1 o2 o3 o4 o5)
 rw[hh]at o3;cases o3
 have hshape: ∀c p,w.shape? c=some p→w'.shape? c=some p:=by
  intro c q hq
  by_cases e1:c=blk
  ·rw[e1]at hq⊢
   simp only[World.shape?,hh]at hq
   simp only[World.shape?,hw.new,hs];exact hq
  ·rw[F3 (hw.old c e1)];exact hq
 have hext:Ext w g w' {g with own:=g.own,sp:=fun c=>if c=blk then some e' else g.sp c}:=by
  refine⟨by rw[hw.size];omega,fun c _ hc=>hw.old c (fun e1=>hc (e1▸o1)),fun _ _ h=>h,fun _ _=>Iff.rfl,hshape,fun b hb=>⟨hb,rfl⟩,⟨rfl,hw.same⟩,fun c e1 hb ho he=>?_⟩
  by_cases hc:c=blk
  ·subst hc
   rw[o2]at he;cases he
   refine⟨fun o hlt=>?_,fun _=>⟨e',by simp,hee⟩⟩
   rw[CD hw.new,CD hh];exact hpre o hlt
  ·exact⟨fun o _=>Ch (hw.old c hc) o none,fun _=>⟨e1,by simp[hc,he],Nat.le_refl _⟩⟩
 have hbn: ∀c b1,g.β c=some (some b1)→b1≠blk:=fun c b1 h e1=>by subst e1;rw[hi.sx.bs _ _ h]at o2;cases o2
 obtain⟨k1,k2⟩:=NY hi hρ (L':=L') hext (fun c b1 h=>hw.old b1 (hbn c b1 h)) (fun _ h=>h) (fun b1 h=>by rw[hw.size];exact hi.lt b1 (.inl h)) hi.dis (fun b1 e1 h=>by
   rw[hw.size]
   (try simp only at h)
   split at h
   ·rename_i hb;subst hb;exact CW hh
   ·exact hi.sx.lt _ _ h) (fun c b1 h=>by rw[if_neg (hbn c b1 h)];exact hi.sx.bs _ _ h) hnd (fun q hq=>by
   rcases hL' q hq with rfl|⟨hq,hne⟩
   ·exact⟨o1,by simp,vs',_,hw.new,by rw[hs];exact o4,heN⟩
   ·obtain⟨r1,r2,r3⟩:=hL0 q hq
    exact⟨r1,by simp[hne,r2],by rw[hw.old _ hne];exact r3⟩) (fun d L1 hd hl q hq=>by
   have hne:q.1≠blk:=fun e1=>hd (hi.sx.one _ _ _ _ _ _ _ hl hρ (show(q.1,q.2)∈L1 from hq) (by rw[e1];exact hp))
   refine⟨by simp[hne],hw.old _ hne,fun e1 he1=>?_⟩
   rcases hL' _ he1 with h|⟨h,_⟩
   ·exact hne (congrArg Prod.fst h)
   ·exact hd (hi.sx.one _ _ _ _ _ _ _ hl hρ (show(q.1,q.2)∈L1 from hq) h))
 exact⟨hext,k1,k2⟩
theorem VH (hi:Inv w g σ) {ρ e':Nat} {L L':List Rt} (hρ:look σ ρ=some (.rights L)) {arr:Array Value} {et:TypeId} (hm:More w w' (.cells arr et (0,0))) (he':e'≤arr.size)
  (hnd:(L'.map Prod.fst).Nodup) (hL': ∀q∈L',q=(w.heap.size,arr.size,e')∨q∈L):
  Ext w g w' {g with own:=fun c=>g.own c∨c=w.heap.size,sp:=fun c=>if c=w.heap.size then some e' else g.sp c}∧Inv w' {g with own:=fun c=>g.own c∨c=w.heap.size,sp:=fun c=>if c=w.heap.size then some e' else g.sp c} (upd σ ρ (.rights L'))∧
   (∀v x,Rel w g v x→Rel w' {g with own:=fun c=>g.own c∨c=w.heap.size,sp:=fun c=>if c=w.heap.size then some e' else g.sp c} v x):=by
 obtain⟨hnd0,hL0⟩:=hi.sx.ok ρ L hρ
 have hext:Ext w g w' {g with own:=fun c=>g.own c∨c=w.heap.size,sp:=fun c=>if c=w.heap.size then some e' else g.sp c}:=by
  refine⟨by rw[hm.size];omega,fun blk hb _=>hm.old blk hb,fun blk hb h=>?_,fun _ _=>Iff.rfl,hm.shape,fun b hb=>⟨hb,rfl⟩,⟨rfl,hm.same⟩,fun c e1 hb ho he=>?_⟩
  ·rcases h with h|h
   ·exact h
   ·omega
  ·refine⟨fun o _=>Ch (hm.old c hb) o none,fun _=>⟨e1,?_,Nat.le_refl _⟩⟩
   have:c≠w.heap.size:=by omega
   simp[this,he]
 have hlt1: ∀c b1,g.β c=some (some b1)→b1<w.heap.size:=fun c b1 h=>(DX hi h).1
 obtain⟨k1,k2⟩:=NY hi hρ (L':=L') hext (fun c b1 h=>hm.old b1 (hlt1 c b1 h)) (fun _ h=>.inl h) (fun b1 h=>by
   rw[hm.size]
   rcases h with h|h
   ·have:=hi.lt b1 (.inl h);omega
   ·omega) (fun b1 o h ho=>by
   rcases h with h|h
   ·exact hi.dis _ _ h ho
   ·subst h;have:=hi.lt _ (.inr ⟨o,ho⟩);omega) (fun b1 e1 h=>by
   rw[hm.size]
   (try simp only at h)
   split at h
   ·omega
   ·have:=hi.sx.lt _ _ h;omega) (fun c b1 h=>by
   have:=hlt1 c b1 h
   have hne:b1≠w.heap.size:=by omega
   simp only[if_neg hne];exact hi.sx.bs _ _ h) hnd (fun q hq=>by
   rcases hL' q hq with rfl|hq
   ·exact⟨.inr rfl,by simp,arr,et,hm.new,rfl,he'⟩
   ·obtain⟨r1,r2,r3⟩:=hL0 q hq
    have hlt:=hi.sx.lt _ _ r2
    have hne:q.1≠w.heap.size:=by omega
    exact⟨.inl r1,by simp[hne,r2],by rw[hm.old _ hlt];exact r3⟩) (fun d L1 hd hl q hq=>by
   have r2:=((hi.sx.ok d L1 hl).2 q hq).2.1
   have hlt:=hi.sx.lt _ _ r2
   have hne:q.1≠w.heap.size:=by omega
   refine⟨by simp[hne],hm.old _ hlt,fun e1 he1=>?_⟩
   rcases hL' _ he1 with h|h
   ·exact hne (congrArg Prod.fst h)
   ·exact hd (hi.sx.one _ _ _ _ _ _ _ hl hρ (show(q.1,q.2)∈L1 from hq) h))
 exact⟨hext,k1,k2⟩
theorem ZS {M:Nat→Nat→Prop} {v:Value} {blk N sz:Nat} {es:List (List T)} (hne:es≠[]) (h:RelT w M v (.slice (.phys blk N) sz es)):
  ∃cap,v=.slice (some ⟨blk,0,none⟩) es.length cap∧es.length≤cap∧cap*sz≤N∧(∀e∈es,e.length=sz)∧
   ∀i x,es.flatten[i]?=some x→ ¬M blk i∧CG x=true∧ ∃u,w.cell? ⟨blk,i,none⟩=some u∧RelT w M u x:=by
 cases h with
 |sliceNil=>exact absurd rfl hne
 |sliceZ a _ _ hm=>exact absurd rfl hne
 |slice b off len cap _ _ _ vs hl hc hf hm hp hsz hone hcell hrel=>
  obtain⟨rfl,rfl,h3⟩:=hp _ _ rfl
  subst hl
  exact⟨cap,rfl,hc,h3,hsz,fun i x hx=>by
   have h1:=hcell i x hx
   rw[Nat.zero_add]at h1
   exact⟨h1.1,hone i x hx,_,h1.2,hrel i x hx⟩⟩
theorem Acg (hte:D1 P te) (hi:Inv w g σ) {t ty e:Nat} (hu:P.underlying t=some (.slice e)) {ei:TI} (hei:look te e=some ei) {us ux:Value} {x:AV} {es news:List (List T)} {blk N ρ:Nat} {L:List Rt}
  (hρ:look σ ρ=some (.rights L)) (hp:(blk,N,es.length*ei.size)∈L) (hne:es≠[]) (hs:Rel w g us (.t (.slice (.phys blk N) ei.size es))) (hx:Rel w g ux x) (hnews:Hz σ ei.size x=some news)
  (hbytes:(es.length+news.length)*(ei.bytes+1)≤140737488355328):
  ∃v w',(Builtin.append_ #[t,t] ty #[us,ux]).run P w=.ok v w'∧ ∃b' N',(∀q∈L,q.1≠blk→q.1≠b')∧ ∃g',Ext w g w' g'∧Rel w' g' v (.t (.slice (.phys b' N') ei.size (es++news)))∧(∀v x,Rel w g v x→Rel w' g' v x)∧
   ∀L':List Rt,(L'.map Prod.fst).Nodup→(∀q∈L',q=(b',N',(es++news).length*ei.size)∨(q∈L∧q.1≠blk))→Inv w' g' (upd σ ρ (.rights L')):=by
 obtain⟨ns,hsrc,hnall,n1,n3,hone⟩:=J6 (ty:=ty) hte hu hei (TP hi hx hnews)
 obtain⟨inf,hinf,hs1,hs2,hs3⟩:=(hte _ _ hei).info'
 have hzr:=Ev (w:=w) (g:=g) (hte _ _ hei)
 have hzl:=(hte _ _ hei).len
 have hzs:(Cs ei).cells.size=ei.size:=by rw[←hzl,←BG,←hzr.1];simp
 obtain⟨cap,rfl,hlc,hcN,hall,hcell⟩:=ZS hne (A8 hs)
 obtain⟨hnd0,hL0⟩:=hi.sx.ok ρ L hρ
 obtain⟨o1,o2,vs,et,o3,o4,o5⟩:=hL0 _ hp
 (try simp only at o1 o2 o3 o4 o5)
 have hfl:=Cb ei.size es hall
 have hnf:=Cb ei.size news hnall
 have hallN: ∀e∈es++news,e.length=ei.size:=fun e he=>by
  rcases List.mem_append.1 he with h|h
  ·exact hall e h
  ·exact hnall e h
 have hlenN:(es++news).length*ei.size=es.length*ei.size+news.length*ei.size:=by rw[List.length_append,Nat.add_mul]
 have inpl: ∀(vs':Array Value) (w':World),Sets w w' blk vs' et→vs'.size=vs.size→es.length+news.length≤cap→(∀i,i<es.length*ei.size→vs'[i]?=vs[i]?)→(∀i v,vs'[es.length*ei.size+i]?=some v→i<ns.length→ns[i]?=some v)→
   (Builtin.append_ #[t,t] ty #[.slice (some ⟨blk,0,none⟩) es.length cap,ux]).run P w=.ok (.slice (some ⟨blk,0,none⟩) (es.length+news.length) cap) w'→
   ∃v w',(Builtin.append_ #[t,t] ty #[.slice (some ⟨blk,0,none⟩) es.length cap,ux]).run P w=.ok v w'∧ ∃b' N',(∀q∈L,q.1≠blk→q.1≠b')∧ ∃g',Ext w g w' g'∧Rel w' g' v (.t (.slice (.phys b' N') ei.size (es++news)))∧(∀v x,Rel w g v x→Rel w' g' v x)∧
    ∀L':List Rt,(L'.map Prod.fst).Nodup→(∀q∈L',q=(b',N',(es++news).length*ei.size)∨(q∈L∧q.1≠blk))→Inv w' g' (upd σ ρ (.rights L')):=by
  intro vs' w' hw hsz hroom hpre hnew hrun
  have hle:(es++news).length*ei.size≤N:=by
   rw[List.length_append];exact Nat.le_trans (Nat.mul_le_mul_right _ hroom) hcN
  have key:=fun(L':List Rt) hnd hL'=>XW hi (L':=L') hρ hp o3 hsz hpre (by rw[hlenN];omega) hle hw hnd hL'
  obtain⟨k1,_,k3⟩:=key [] Z Z
  refine⟨_,w',hrun,blk,N,fun q _ h=>h,_,k1,.t _ _ (Dr (by rw[List.length_append]) hroom Z Z hallN (fun i y hy=>?_) (fun p N' hpN=>by cases hpN;exact⟨rfl,rfl,hcN⟩)),k3,fun L' hnd hL'=>(key L' hnd hL').2.1⟩
  have hlt:=Bw hy
  rw[Cb ei.size _ hallN]at hlt
  rw[Nat.zero_add]
  refine⟨G.M_own (e:=(es++news).length*ei.size) o1 (hi.dis _ _ o1) Z hlt,?_⟩
  have hv': ∃v,vs'[i]?=some v:=⟨vs'[i]'(by rw[hsz,o4];omega),Array.getElem?_eq_getElem _⟩
  obtain⟨v,hv⟩:=hv'
  rw[List.flatten_append]at hy
  by_cases c:i<es.flatten.length
  ·rw[List.getElem?_append_left c]at hy
   obtain⟨_,q2,u,q3,q4⟩:=hcell i y hy
   rw[CD o3,←hpre i (by rw[←hfl];exact c)]at q3
   rw[hv]at q3;cases q3
   exact⟨q2,v,by rw[CD hw.new];exact hv,A8 (k3 _ _ (.t _ _ q4))⟩
  ·rw[List.getElem?_append_right O]at hy
   have hlt2:=Bw hy
   have hni:=hnew (i-es.length*ei.size) v (by rw[show es.length*ei.size+(i-es.length*ei.size)=i by omega];exact hv) (by rw[n1,←hfl];exact hlt2)
   rw[hfl]at hy
   exact⟨hone _ y hy,v,by rw[CD hw.new];exact hv,A8 (k3 _ _ (.t _ _ (n3 _ v y hni hy)))⟩
 by_cases hnz:news.length=0
 ·have hn:ns=[]:=List.eq_nil_of_length_eq_zero (by rw[n1,hnf,hnz];simp)
  have hrun:=hsrc.same hnz (some ⟨blk,0,none⟩) es.length cap hlc
  exact inpl vs w (Sets.refl o3) rfl O (fun _ _=>rfl) (fun i v _ h=>by rw[hn]at h;simp at h) (by rw[hrun];simp[hnz])
 by_cases hroom:es.length+news.length≤cap
 ·have hfit:es.length*ei.size+ns.length≤vs.size:=by
   rw[n1,hnf,←Nat.add_mul,o4];exact Nat.le_trans (Nat.mul_le_mul_right _ hroom) hcN
  have hrun:=hsrc.room hnz blk es.length cap et vs o3 hroom hfit
  have hsets:=Sets.setRow o3 (vs.toList.take (es.length*ei.size)++ns++vs.toList.drop (es.length*ei.size+ns.length)).toArray
  have htk:(vs.toList.take (es.length*ei.size)).length=es.length*ei.size:=by simp;omega
  refine inpl _ _ hsets ?_ hroom (fun i hlt=>?_) (fun i v hv hlt=>?_) hrun
  ·simp only[List.size_toArray,List.length_append,List.length_take,List.length_drop,Array.length_toList];omega
  ·simp only[List.getElem?_toArray]
   rw[List.append_assoc,List.getElem?_append_left O,List.getElem?_take,if_pos hlt,Array.getElem?_toList]
  ·simp only[List.getElem?_toArray]at hv
   rw[List.append_assoc,List.getElem?_append_right O,htk,List.getElem?_append_left O,Nat.add_sub_cancel_left]at hv
   exact hv
 ·obtain⟨os,u1,u2,u3⟩:=Gr (w:=w) (ts:=es.flatten) (b:=blk) (off:=0) (M:=g.M) (fun i y hy=>by rw[Nat.zero_add];exact(hcell i y hy).2.2)
  have hrun:=hsrc.grow hnz ⟨blk,0,none⟩ es.length cap os (by rw[u1,hfl]) (fun j v hv=>by rw[BW];exact u2 j v hv) O hbytes
  have hge:=grownCap_ge w (es.length+news.length) cap e
  have hsz:(os.toArray++ns.toArray++Builtin.zeroCells (Cs ei).cells (grownCap w (es.length+news.length) cap e-(es.length+news.length))).size=grownCap w (es.length+news.length) cap e*ei.size:=by
   simp only[Array.size_append,List.size_toArray,size_zeroCells,hzs,n1,hnf,u1,hfl,←Nat.add_mul]
   congr 1;omega
  have hm:=More.drewAlloc w (.cells (os.toArray++ns.toArray++Builtin.zeroCells (Cs ei).cells (grownCap w (es.length+news.length) cap e-(es.length+news.length))) e)
  have hle:(es++news).length*ei.size≤(os.toArray++ns.toArray++Builtin.zeroCells (Cs ei).cells (grownCap w (es.length+news.length) cap e-(es.length+news.length))).size:=by
   rw[hsz,List.length_append];exact Nat.mul_le_mul_right _ hge
  have key:=fun(L':List Rt) hnd (hL': ∀q∈L',q=(w.heap.size,_,(es++news).length*ei.size)∨q∈L)=>VH hi (L':=L') hρ hm hle hnd hL'
  obtain⟨k1,_,k3⟩:=key [] Z Z
  refine⟨_,_,hrun,w.heap.size,_,fun q hq _=>?_,_,k1,.t _ _ (Dr (by rw[List.length_append]) hge Z Z hallN (fun i y hy=>?_) (fun p N' hpN=>by cases hpN;exact⟨rfl,rfl,by rw[hsz];exact Nat.le_refl _⟩)),k3,fun L' hnd hL'=>(key L' hnd (fun q hq=>(hL' q hq).imp (fun h=>h) (fun h=>h.1))).2.1⟩
  ·have:=hi.sx.lt _ _ (hL0 q hq).2.1;omega
  ·have hlt:=Bw hy
   rw[List.flatten_append,List.length_append]at hlt
   have hlt':=hlt
   rw[hfl,hnf,←Nat.add_mul,←List.length_append]at hlt'
   rw[Nat.zero_add]
   refine⟨G.M_own (e:=(es++news).length*ei.size) (.inr rfl) (fun h=>by have:=hi.lt _ (.inr ⟨_,h⟩);omega) Z hlt',?_⟩
   rw[List.flatten_append]at hy
   by_cases c:i<es.flatten.length
   ·rw[List.getElem?_append_left c]at hy
    obtain⟨v,hv⟩: ∃v,os[i]?=some v:=⟨os[i]'(by rw[u1];exact c),List.getElem?_eq_getElem _⟩
    refine⟨(hcell i y hy).2.1,v,?_,A8 (k3 _ _ (.t _ _ (u3 i v y hv hy)))⟩
    rw[CD hm.new,Array.getElem?_append_left (by simp only[Array.size_append,List.size_toArray,u1,n1];omega),Array.getElem?_append_left (by rw[List.size_toArray,u1];exact c)]
    simpa using hv
   ·rw[List.getElem?_append_right O]at hy
    have hlt2:=Bw hy
    obtain⟨v,hv⟩: ∃v,ns[i-es.flatten.length]?=some v:=⟨ns[i-es.flatten.length]'(by rw[n1];exact hlt2),List.getElem?_eq_getElem _⟩
    refine⟨hone _ y hy,v,?_,A8 (k3 _ _ (.t _ _ (n3 _ v y hv hy)))⟩
    rw[CD hm.new,Array.getElem?_append_left (by simp only[Array.size_append,List.size_toArray,u1,n1];omega),Array.getElem?_append_right (by rw[List.size_toArray,u1];omega),List.size_toArray,u1]
    simpa using hv
end
end Go.Am
namespace Go.Am
def PS (b sz:Nat) (es:List (List T)) (blk N:Nat) (y y':AV):Prop:= ∀(w:World) (g g':G),(∀v,Rel w g v (.row b sz 0 es.length)→Rel w g' v (.t (.slice (.phys blk N) sz es)))→(∀v x,Rel w g v x→Rel w g' v (BA b sz es x))→ ∀v,Rel w g v y→Rel w g' v y'
def PSL (b sz:Nat) (es:List (List T)) (blk N:Nat):List AV→List AV→Prop
 |[],[]=>True
 |x::r,y::s=>PS b sz es blk N x y∧PSL b sz es blk N r s
 |_,_=>False
section
variable {b sz:Nat} {es:List (List T)} {blk N:Nat}
theorem Ahz {m:Nat} (h:m=es.length):PS b sz es blk N (.row b sz 0 m) (.t (.slice (.phys blk N) sz es)):=fun w g g' h1 _ v hv=>h1 v (h▸hv)
theorem Al0 {x:T}:PS b sz es blk N (.t x) (.t x):=fun w g g' _ h2 v hv=>h2 v (.t x) hv
theorem PSL.get: ∀{xs ys:List AV},PSL b sz es blk N xs ys→xs.length=ys.length∧ ∀(i:Nat) y,ys[i]?=some y→ ∃x,xs[i]?=some x∧PS b sz es blk N x y
 |[],[],_=>⟨rfl,fun i y h=>by simp at h⟩
 |x::r,y::s,⟨h1,h2⟩=>by
  obtain⟨k1,k2⟩:=PSL.get h2
  refine⟨by simp[k1],fun i z hz=>?_⟩
  cases i with
  |zero=>simp at hz;subst hz;exact⟨x,rfl,h1⟩
  |succ i=>simp at hz;simpa using k2 i z hz
 |[],_::_,h=>h.elim
 |_::_,[],h=>h.elim
theorem Ah0 {xs ys:List AV} (h:PSL b sz es blk N xs ys):PS b sz es blk N (.agg xs) (.agg ys):=fun w g g' h1 h2 v hv=>by
 obtain⟨k1,k2⟩:=h.get
 cases hv with
 |agg vs _ hl hr=>
  refine .agg vs _ (by rw[hl,k1]) (fun i u y hu hy=>?_)
  obtain⟨x,hx,hp⟩:=k2 i y hy
  exact hp w g g' h1 h2 u (hr i u x hu hx)
end
section
variable {P:Program} {c:Conf} {n:Nat} {ops:Array Oper} {rest:List Oper} {env:Env} {σ:St} {o:Oper} {K:Exit→Env→St→Prop} {k:Env→St→Prop}
theorem Tr.newRights {code:Code} (d:Nat) (hl:look σ (2*d)=none) (h:Tr P n code env ((2*d,.rights [])::σ) K):Tr P n code env σ K:=by
 intro F hF hrf w g a hg
 have hi:=hg.inv
 obtain⟨k1,k2,k3⟩:=L3 (sz:=0) hi hl
 have hi2:Inv w (g.with (2*d) none) ((2*d,.rights [])::σ):=by
  refine⟨fun b B hB=>?_,fun b=>?_,k2.inj,k2.lt,fun b hb=>?_,k2.dis,k2.im,k2.lo,⟨k2.sx.lt,k2.sx.bs,fun b b' L L' blk e e' h1 h2 h3 h4=>?_,fun b L hL=>?_⟩⟩
  ·rw[A3]at hB
   split at hB
   ·rename_i e;subst e;cases hB;show(g.with (2*d) none).β (2*d)=some none;simp[G.with]
   ·rename_i hne;exact k2.ok b B (by rw[A3,if_neg hne];exact hB)
  ·rw[←k2.dom b,A3,A3]
   by_cases e:2*d=b<;>simp[e]
  ·obtain⟨q1,cs,q2⟩:=k2.bx b hb
   refine⟨q1,cs,?_⟩
   rw[A3]at q2⊢
   split at q2
   ·cases q2
   ·rename_i hne;rw[if_neg hne];exact q2
  ·rw[A3]at h1 h2
   split at h1
   ·cases h1;simp at h3
   ·split at h2
    ·cases h2;simp at h4
    ·exact hi.sx.one _ _ _ _ _ _ _ h1 h2 h3 h4
  ·rw[A3]at hL
   split at hL
   ·cases hL;exact⟨by simp,by simp⟩
   ·rename_i hne;exact k2.sx.ok b L (by rw[A3,if_neg hne];exact hL)
 exact wpIn_mono (h F hF hrf w _ a ⟨hg.env.mono k3,hi2,hg.defers.ext k1,hg.size⟩) fun ex a2 w2 hq=>hq.lift k1
theorem YY (hp0:ProgOk P c) {cl:Call} {so xo:Operand} {t e s0 b0 sz:Nat} {z0:List T} {esz ebb:Nat} {ez:List T} {ek:TK} {es news:List (List T)} {x:AV} {blk N ρ:Nat} {L:List Rt} (ho:o.op=.call cl) (hcl:cl.callee=.builtin .append) (ha:cl.args.toList=[so,xo]) (hty:cl.argTypes.toList=[t,t])
  (hs:ev env so=some (.t (.slice (.phys blk N) sz es))) (hx:ev env xo=some x) (hn:Hz σ sz x=some news) (ht:look c.te t=some ⟨s0,b0,z0,.slice e⟩) (he:look c.te e=some ⟨esz,ebb,ez,ek⟩) (hsz:esz=sz) (hρ:look σ ρ=some (.rights L)) (hm:(blk,N,es.length*sz)∈L) (hne:es≠[])
  (hlim:(es.length+news.length)*(ebb+1)≤140737488355328) {w:World} {g:G} {a:Act} (hi:Inv w g σ) (hee:AY w g a env):
  Cx P o a w fun v w'=> ∃b' N',(∀q∈L,q.1≠blk→q.1≠b')∧ ∃g',Ext w g w' g'∧Rel w' g' v (.t (.slice (.phys b' N') sz (es++news)))∧AY w' g' a env∧
   ∀L':List Rt,(L'.map Prod.fst).Nodup→(∀q∈L',q=(b',N',(es++news).length*sz)∨(q∈L∧q.1≠blk))→Inv w' g' (upd σ ρ (.rights L')):=by
 subst hsz
 obtain⟨dd,hd,hdk⟩:=(hp0.te _ _ ht).und'
 have hu:P.underlying t=some (.slice e):=by cases dd<;>simp[Dn]at hdk;subst hdk;exact hd
 obtain⟨v,w',h1,b',N',h2,g',h3,h4,h5,h6⟩:=Acg (P:=P) (ty:=o.type) hp0.te hi hu he hρ hm hne (Bm hee hs) (Bm hee hx) hn hlim
 refine Cx.value (v:=v) (w':=w') ?_ ⟨b',N',h2,g',h3,h4,hee.mono h5,h6⟩
 have ha1:cl.args= #[so,xo]:=by apply Array.ext';simp[ha]
 have ha2:cl.argTypes= #[t,t]:=by apply Array.ext';simp[hty]
 simp[execOp,ho,resolve,hcl,invoke,builtin,ha1,ha2,h1]
theorem Ahq (hp0:ProgOk P c) {cl:Call} {so xo:Operand} {t e s0 b0 sz:Nat} {z0:List T} {esz ebb:Nat} {ez:List T} {ek:TK} {es news:List (List T)} {x:AV} {blk N:Nat} (ρ:Nat) {L:List Rt} (hg:o.guard=none) (ho:o.op=.call cl) (hcl:cl.callee=.builtin .append) (ha:cl.args.toList=[so,xo]) (hty:cl.argTypes.toList=[t,t])
  (hs:ev env so=some (.t (.slice (.phys blk N) sz es))) (hx:ev env xo=some x) (hn:Hz σ sz x=some news) (ht:look c.te t=some ⟨s0,b0,z0,.slice e⟩) (he:look c.te e=some ⟨esz,ebb,ez,ek⟩) (hsz:esz=sz) (hρ:look σ ρ=some (.rights L)) (hm:(blk,N,es.length*sz)∈L) (hne:es≠[])
  (hlim:(es.length+news.length)*(ebb+1)≤140737488355328) (L':Nat→Nat→List Rt) (hL: ∀b' N',(∀q∈L,q.1≠blk→q.1≠b')→((L' b' N').map Prod.fst).Nodup∧ ∀q∈L' b' N',q=(b',N',(es++news).length*sz)∨(q∈L∧q.1≠blk))
  {e2:Nat→Nat→Env} (hp: ∀b' N',BM n o.dst (.t (.slice (.phys b' N') sz (es++news))) env=some (e2 b' N')) (h: ∀b' N',(∀q∈L,q.1≠blk→q.1≠b')→AQ P n ops rest (e2 b' N') (upd σ ρ (.rights (L' b' N'))) k):AQ P n ops (o::rest) env σ k:=by
 simp only[AQ,B3,hg]
 intro w g a hi hee
 refine(YY hp0 ho hcl ha hty hs hx hn ht he hsz hρ hm hne hlim hi hee).mono ?_
 rintro v w' ⟨b',N',h1,g',h2,h3,h4,h5⟩
 obtain⟨q1,q2⟩:=hL b' N' h1
 exact⟨_,_,_,⟨g',h2,h3,h5 _ q1 q2,h4⟩,e2 b' N',hp b' N',h b' N' h1⟩
def CtF (P:Program) (f:Nat) (as:List AV) (σ:St) {ι:Type} (V:ι→Prop) (r:ι→AV) (s:ι→St):Prop:=
 (∃fn,P.funcs[f]?=some fn∧fn.body.isSome=true)∧ ∀(vs:List Value) (w:World) (g:G),BL w g vs as→Inv w g σ→Calls P f vs.toArray w fun e w'=> ∃v g' i,e=.returned v∧V i∧Ext w g w' g'∧Rel w' g' v (r i)∧Inv w' g' (s i)
def Amn {ι:Type} (te:TE) (rs:List ResultVar) (V:ι→Prop) (r:ι→AV) (s:ι→St) (ex:Exit) (e:Env) (st:St):Prop:=
 (ex=.normal∨ex=.ret)∧ ∃i,V i∧ ∃r0 s1 D r1,Lr te true rs e st=some (r0,s1)∧Jx D [(0,r0)]=[(0,r1)]∧FZ D s1=s i∧Sub r1 (r i)
theorem ctF (hp:ProgOk P c) {f:Nat} {fn:Func} (hf:P.funcs[f]?=some fn) {code:Code} (hb:fn.body=some code) {as:List AV} {ι:Type} {V:ι→Prop} {r:ι→AV} {s:ι→St} (hle:Nat.ble as.length fn.ntmps=true)
  (h:Tr P fn.ntmps code (FP 0 as) σ (Amn c.te fn.results.toList V r s)):CtF P f as σ V r s:=by
 refine⟨⟨fn,hf,by simp[hb]⟩,?_⟩
 intro vs w g hrl hi
 refine FJ hf hb hle h hrl hi fun ex a' w' g' env' σ1 h1 h2 h3=>?_
 obtain⟨hex,i,hV,r0,s1,D,r1,h4,h5,hs,h6⟩:=h3
 obtain⟨v,g2,q1,q2,q3,q4⟩:=Hu hp h2 h4
 have hg2:Good 0 w' g2 ⟨#[v],[]⟩ [(0,r0)] s1:=⟨fun t x hx=>by
  rw[A3]at hx
  split at hx
  ·rename_i e;subst e;cases hx;exact q3
  ·simp[look]at hx,q4,Ga.nil,by simp⟩
 obtain⟨g3,k1,k2⟩:=JT D hg2
 rw[h5]at k2
 have hv:Rel w' g3 v r1:=k2.env 0 r1 rfl
 exact⟨hex,v,q1,v,g3,i,rfl,hV,(h1.trans q2).trans k1,h6 _ _ _ hv,hs▸k2.inv⟩
theorem Zt {ι:Type} {te:TE} {rs:List ResultVar} {V:ι→Prop} {r:ι→AV} {s:ι→St} {e:Env} {st s1:St} {r0 r1:AV} (i:ι) (hV:V i) (D:List Nat) (h:Lr te true rs e st=some (r0,s1)) (h1:Jx D [(0,r0)]=[(0,r1)]) (h2:FZ D s1=s i) (hs:Sub r1 (r i)):Amn te rs V r s .ret e st:=
 ⟨.inr rfl,i,hV,r0,s1,D,r1,h,h1,h2,hs⟩
theorem CtF.args {f:Nat} {as as0:List AV} {ι:Type} {V:ι→Prop} {r:ι→AV} {s:ι→St} (h:CtF P f as0 σ V r s) (hs:Fw as as0):CtF P f as σ V r s:=
 ⟨h.1,fun vs w g hr hi=>h.2 vs w g (hs.rel hr) hi⟩
theorem WM (hp0:ProgOk P c) (ι ω:List (Nat×Nat)) {cl:Call} {f:Nat} {as as0:List AV} {σ0:St} {I:Type} {V:I→Prop} {r:I→AV} {s2:I→St} {e2:I→Env} {s:I→St} (hg:o.guard=none) (ho:o.op=.call cl) (hc:DF c env cl=some (f,as)) (ha:K3 (look ι) as=as0) (hs0:CU ι σ ι=σ0)
  (hct:CtF P f as0 σ0 V r s2) (hR0:Ab7 ι ω σ []=true) (hR: ∀i,V i→Ab7 ι ω σ (s2 i)=true) (hs: ∀i,V i→Nm ω (s2 i)++Ls ι σ σ=s i) (hp: ∀i,V i→BM n o.dst (FD (look ω) (r i)) (We (IE ι σ) env)=some (e2 i)) (h: ∀i,V i→AQ P n ops rest (e2 i) (s i) k):
  AQ P n ops (o::rest) env σ k:=by
 subst ha;subst hs0
 simp only[AQ,B3,hg]
 intro w g a hi hee
 obtain⟨⟨fn,hf,hb⟩,hca⟩:=hct
 obtain⟨vs,hrun,hrel⟩:=Dj hp0 hee hc ho hf hb
 refine Cx.enter hrun ?_
 obtain⟨i1,i2⟩:=WW hi (SB hR0)
 refine(hca vs w _ (hrel.ren (look ι) i2) i1).mono ?_
 rintro ed w' ⟨v,g1,i,rfl,hVi,q1,q2,q3⟩
 obtain⟨g',k1,k2,k3,k4⟩:=P3 hi (SB (hR i hVi)) q1 q3
 refine⟨v,rfl,_,_,_,⟨g',k1,k3 v (r i) q2,(hs i hVi)▸k2,fun t x hx=>?_⟩,e2 i,hp i hVi,h i hVi⟩
 rw[L6]at hx
 cases hl:look env t with
 |none=>simp[hl]at hx
 |some y=>simp[hl]at hx;subst hx;exact k4 _ _ (hee t y hl)
end
end Go.Am
namespace Go.Am
section
variable {P:Program} {c:Conf} {n k m:Nat} {ops:Array Oper} {news:List Nat}
theorem Fx.app {alt:Oper→Env→Prop} (hal:PF ops alt): ∀{l1 l2:List Nat} {env e1 e:Env} {σ s1 s:St},Fx P c alt n ops news l1 env σ e1 s1→Fx P c alt n ops news l2 e1 s1 e s→Fx P c alt n ops news (l1++l2) env σ e s
 |[],l2,env,e1,e,σ,s1,s,h1,h2=>h2.congr hal (fun t=>h1.1 t) (fun b=>h1.2 b)
 |i::r,l2,env,e1,e,σ,s1,s,⟨o,y,nb,e2,s2,a1,a2,a3,a4,a5⟩,h2=>⟨o,y,nb,e2,s2,a1,a2,a3,a4,Fx.app hal a5 h2⟩
end
end Go.Am
namespace Go.Am
section
variable {P:Program} {c:Conf} {n:Nat} {ops:Array Oper} {rest:List Oper} {env:Env} {σ:St} {o:Oper} {k:Env→St→Prop}
theorem RL (hp0:ProgOk P c) {t yt e s0 b0 sz sz':Nat} {z0:List T} {xo yo:Operand} {m:SM} {es:List (List T)} {e2:Bool→Env} (hg:o.guard=none) (ho:o.op=.binOp .eql t xo yo yt) (hx:ev env xo=some (.t (.slice m sz es))) (hy:ev env yo=some (.t (.slice .nil sz' [])))
  (ht:look c.te t=some ⟨s0,b0,z0,.slice e⟩) (hp: ∀b,BM n o.dst (.t (.bool b)) env=some (e2 b)) (h: ∀b,(b=true→es=[])→AQ P n ops rest (e2 b) σ k):AQ P n ops (o::rest) env σ k:=by
 simp only[AQ,B3,hg]
 intro w g a hi hee
 have rx:=A8 (Bm hee hx)
 have ry:=A8 (Bm hee hy)
 have hv:a.eval yo=.slice none 0 0:=by
  generalize a.eval yo=v at ry
  cases ry with
  |sliceNil=>rfl
  |sliceZ _ _ _ hm=>exact absurd rfl hm
  |slice _ _ _ _ _ _ _ _ _ _ _ hm=>exact absurd rfl hm
 have hu:=Gq (hp0.te _ _ ht) w rfl
 have fin: ∀b,(b=true→es=[])→(execOp a.eval o).run P w=.ok (.value (.bool b)) w→Cx P o a w fun v w'=> ∃x e s,Ff w g a x e s v w'∧Se n o.dst x e fun e2=>AQ P n ops rest e2 s k:=fun b hb hrun=>
  Cx.value hrun ⟨.t (.bool b),env,σ,⟨g,Ext.refl _ _,.t _ _ (.bool b),hi,hee⟩,e2 b,hp b,h b hb⟩
 rcases Cy rx with⟨h1,h2⟩|⟨b,off,cap,h1,_,_,_,_,_⟩|⟨az,h1,h2,_⟩
 ·refine fin true (fun _=>h2) ?_
  have:=FR (P:=P) (w:=w) (t:=t) (GH hu) rfl
  simp[execOp,ho,h1,hv,GD,this]
 ·refine fin false (fun hb=>by cases hb) ?_
  have:=FR (P:=P) (w:=w) (t:=t) (E8 (a:=⟨b,off,none⟩) (l:=es.length) (c:=cap) hu) rfl
  simp[execOp,ho,h1,hv,GD,this]
 ·refine fin false (fun hb=>by cases hb) ?_
  have:=FR (P:=P) (w:=w) (t:=t) (E8 (a:=az) (l:=0) (c:=0) hu) rfl
  simp[execOp,ho,h1,hv,GD,this]
theorem Hs {news:List Nat} {t s0 b0 e:Nat} {z0:List T} {esz ebb:Nat} {ez:List T} {ek:TK} {xo io:Operand} {m:SM} {sz:Nat} {es:List (List T)} {kk:IntKind} {kc:Nat} {nn:Int} {cc:List T} {e2:Env} (hg:o.guard=none) (ho:o.op=.indexAddr t xo io) (hx:ev env xo=some (.t (.slice m sz es)))
  (hi:ev env io=some (.t (.int kk nn))) (ht:look c.te t=some ⟨s0,b0,z0,.slice e⟩) (he:look c.te e=some ⟨esz,ebb,ez,ek⟩) (hsz:sz=esz) (hn:nn=(kc:Int)) (hc:es[kc]?=some cc) (hp:BM n o.dst (.t (.ptr cc)) env=some e2)
  (h:hSK P c n ops news rest e2 σ k):hSK P c n ops news (o::rest) env σ k:=by
 subst hn
 simp only[hSK,B3,hg]
 refine⟨Yi,.t (.ptr cc),[],N4,?_,e2,hp,h⟩
 unfold BX
 rw[ho]
 simp only[Ce,hx,hi,DB,EI,ht,he,hsz,hc,if_true]
end
end Go.Am
