/- Lemmas toward the law; each names its conditions. -/
import Derived.Test.YtppffhlbcgpgdaaGreatDoorYN2
set_option linter.all false
namespace Go.Am
abbrev Rt:=Nat×Nat×Nat
section
variable {P:Program} {c:Conf} {te:TE} {w w':World} {g:G} {σ:St}
theorem A3r {g:G} {b o:Nat} (h:g.own b) (hd: ¬g.oth b o) {e:Nat} (hs:g.sp b=some e) (aC:o<e): ¬g.M b o:=by
 rintro(⟨_,h2⟩|h2)
 ·have:=h2 e hs;omega
 ·exact hd h2
def G.give (g:G) (b aA e:Nat):G:={g with β:=λc=>if c=b then none else g.β c,sp:=λc=>if c=aA then some e else g.sp c}
theorem Arb (hi:Inv w g σ) {b ρ sz:Nat} {es:List (List T)} {L:List Rt} (hb:look σ b=some (.grow sz es)) (hρ:look σ ρ=some (.rights L)) (aE:es≠[]):
  ∃aA N,(∀q∈L,q.1≠aA)/\ ∃g',Ext w g w g'/\(∀L':List Rt,(L'.map Prod.fst).Nodup->(∀q∈L',q=(aA,N,es.length*sz)\/q∈L)->Inv w g' (upd (Gf b sz es σ) ρ (.rights L')))/\
   (∀v x,Rel w g v x->Rel w g' v (BG b sz es x))/\(∀v,Rel w g v (.row b sz 0 es.length)->Rel w g' v (.t (.slice (.phys aA N) sz es))):=by
 obtain⟨aI,jY⟩:=hi.ok b _ hb;rcases jY with⟨_,h1⟩|⟨aA,vs,et,h1,h2,h3,h4,h5⟩
 ·exact absurd h1 aE
 have eK:=Cx sz es aI;have c8: ¬g.bx b:=λh=>by obtain⟨cs,h'⟩:=(hi.bx _ h).2;rw[hb]at h';cases h'
 have o9: ∀c,g.bx c->c≠b:=λc hc e=>c8 (e▸hc);have eU:=hi.sx.bs _ _ h1
 have gS: ∀q∈L,q.1≠aA:=λq hq e=>by
  have:=((hi.sx.ok ρ L hρ).2 q hq).2.1;rw[e,eU]at this;cases this
 have hbρ:ρ≠b:=λe=>by subst e;rw[hρ]at hb;cases hb
 have aG:Ext w g w (g.give b aA (es.length*sz)):=⟨WW _,λ_ _ _=>rfl,λ_ _ h=>h,λ_ _=>A6h,λ_ _ h=>h,λc hc=>⟨hc,by simp[G.give,o9 c hc]⟩,⟨Y,Y,Y⟩,
  λc e _ _ he=>⟨λ_ _=>rfl,λ_=>⟨e,by
   have hc:c≠aA:=λe'=>by subst e';rw[eU]at he;cases he
   simp[G.give,hc,he],WW _⟩⟩⟩
 have hM: ∀i,i<es.flatten.length-> ¬(g.give b aA (es.length*sz)).M aA i:=λi aC=>
  A3r (g:=g.give b aA (es.length*sz)) h2 (hi.dis _ _ h2) (e:=es.length*sz) (by simp[G.give]) (by rw[<-eK];exact aC)
 have hβ: ∀c p,c≠b->g.β c=some p->(g.give b aA (es.length*sz)).β c=some p:=λc p q1 q2=>by simp[G.give,q1,q2]
 have hr:=Ad6 hi hb aG.keeps hβ (λaX cN i aC=>by rw[h1]at cN;cases cN;exact hM i aC);refine⟨aA,vs.size,gS,_,aG,λL' gI iI=>?_,hr,λv hv=>?_⟩
 ·refine⟨λd C hC=>?_,λd=>?_,λd d' aX q1 q2=>?_,hi.lt,λd hd=>?_,hi.dis,hi.im_of aG.keeps,hi.lo,⟨λaX e he=>?_,λd aX q=>?_,λd d' L1 L2 aX e e' q1 q2 q3 q4=>?_,λd L1 q=>?_⟩⟩
  ·rw[AK]at hC;split at hC
   ·rename_i e;subst e;cases hC;show(g.give b aA (es.length*sz)).β ρ=some none;exact hβ _ _ hbρ (hi.ok ρ _ hρ)
   ·rw[DU]at hC;split at hC
    ·cases hC
    ·rename_i mC
     cases hl:look σ d with
     |none=>simp[hl]at hC
     |some D=>
      simp only[hl,A4g,A26]at hC;subst hC;have fV:=hi.ok d D hl
      cases D with
      |cells cs=>
       obtain⟨bk,us,e,k1,k2,k3,k4,k5⟩:=fV;refine⟨bk,us,e,hβ _ _ mC k1,k2,k3,by rw[FB];exact k4,λi v x hv hx=>?_⟩;rw[FC]at hx
       cases hg:cs[i]? with
       |none=>simp[hg]at hx
       |some y=>simp[hg]at hx;subst hx;exact hr _ _ (k5 i v y hv hg)
      |grow cO es'=>
       obtain⟨k0,k⟩:=fV;refine⟨k0,?_⟩;rcases k with⟨k1,k2⟩|⟨bk,us,e,k1,k2,k3,k4,k5⟩
       ·exact .inl ⟨hβ _ _ mC k1,k2⟩
       ·exact .inr ⟨bk,us,e,hβ _ _ mC k1,k2,k3,k4,λi v x hv hx=>⟨(k5 i v x hv hx).1,(k5 i v x hv hx).2.mono aG.keeps⟩⟩
      |rights L0=>exact hβ _ _ mC fV
      |loop l st pe ps asg bd n env=>
       obtain⟨r,k1,k2,k3,k4,k5,k6⟩:=fV;refine⟨r,hβ _ _ mC k1,k2,k3,k4,k5,λt x ht=>?_⟩;rw[FD]at ht
       cases hg:look env t with
       |none=>simp[hg]at ht
       |some y=>simp[hg]at ht;subst ht;exact hr _ _ (k6 t y hg)
      |mp ks ys=>
       obtain⟨aA,fs,clk,h1,h2,h3,h4,h5,h6,h7⟩:=fV;refine⟨aA,fs,clk,hβ _ _ mC h1,h2,h3,h4,by rw[FB];exact h5,λi e x he hx=>(h6 i e x he hx).mono aG.keeps,λi e x he hx=>?_⟩;rw[FC]at hx
       cases hg:ys[i]? with
       |none=>simp[hg]at hx
       |some y=>simp[hg]at hx;subst hx;exact hr _ _ (h7 i e y he hg)
  ·rw[AK];by_cases e:ρ=d
   ·subst e;have:=hβ _ _ hbρ (hi.ok ρ _ hρ);simp[this]
   ·rw[Ug e,DU];by_cases e2:d=b
    ·simp[e2,G.give]
    ·simp only[Ug e2,G.give];rw[<-hi.dom d];cases look σ d<;>rfl
  ·simp only[G.give]at q1 q2;split at q1
   ·cases q1
   ·split at q2
    ·cases q2
    ·exact hi.inj _ _ _ q1 q2
  ·obtain⟨k1,cs,k2⟩:=hi.bx d hd;have hdρ:ρ≠d:=λe=>by subst e;rw[hρ]at k2;cases k2
   exact⟨k1,F6 b sz es cs,by rw[AK,Ug hdρ,DU,Ug (o9 d hd),k2];rfl⟩
  ·simp only[G.give]at he;split at he
   ·rename_i e';subst e';exact C9 h3
   ·exact hi.sx.lt _ _ he
  ·simp only[G.give]at q⊢;split at q
   ·cases q
   ·rename_i mC;have gN:aX≠aA:=λe=>by subst e;exact mC (hi.inj _ _ _ q h1)
    rw[Ug gN];exact hi.sx.bs _ _ q
  ·have two: ∀d L1,look (upd (Gf b sz es σ) ρ (.rights L')) d=some (.rights L1)->(d=ρ/\L1=L')\/(d≠ρ/\look σ d=some (.rights L1)):=by
    intro d L1 q;rw[AK]at q;split at q
    ·rename_i e;subst e;cases q;exact .inl ⟨Y,Y⟩
    ·rename_i hdρ;refine .inr ⟨A6f hdρ,?_⟩;rw[DU]at q;split at q
     ·cases q
     ·cases hl:look σ d with
      |none=>simp[hl]at q
      |some D=>simp only[hl,A4g,A26]at q;cases D<;>simp[Aq9]at q;rw[q]
   have other: ∀d L1 aX e e',d≠ρ->look σ d=some (.rights L1)->(aX,e)∈L'->(aX,e')∈L1->False:=by
    intro d L1 aX e e' k1 k2 k3 k4;rcases iI _ k3 with k|k
    ·cases k;have:=((hi.sx.ok d L1 k2).2 _ k4).2.1;simp only at this;rw[eU]at this;cases this
    ·exact k1 (hi.sx.one _ _ _ _ _ _ _ k2 hρ k4 k)
   rcases two _ _ q1 with⟨rfl,rfl⟩|⟨k1,k2⟩<;>rcases two _ _ q2 with⟨rfl,rfl⟩|⟨k3,k4⟩
   ·rfl
   ·exact(other _ _ _ _ _ k3 k4 q3 q4).elim
   ·exact(other _ _ _ _ _ k1 k2 q4 q3).elim
   ·exact hi.sx.one _ _ _ _ _ _ _ k2 k4 q3 q4
  ·rw[AK]at q
   have keep: ∀L2 d,look σ d=some (.rights L2)-> ∀p∈L2,(g.give b aA (es.length*sz)).own p.1/\(g.give b aA (es.length*sz)).sp p.1=some p.2.2/\ ∃us ty,w.heap[p.1]?=some (.cells us ty (0,0))/\us.size=p.2.1/\p.2.2<=p.2.1:=by
    intro L2 d hd p hp;obtain⟨r1,r2,r3⟩:=(hi.sx.ok d L2 hd).2 p hp;have gN:p.1≠aA:=λe=>by rw[e,eU]at r2;cases r2
    exact⟨r1,by simp[G.give,gN,r2],r3⟩
   split at q
   ·cases q;refine⟨gI,λp hp=>?_⟩;rcases iI p hp with rfl|hp
    ·exact⟨h2,by simp[G.give],vs,et,h3,Y,by rw[<-eK];exact h4⟩
    ·exact keep L ρ hρ p hp
   ·rw[DU]at q;split at q
    ·cases q
    ·cases hl:look σ d with
     |none=>simp[hl]at q
     |some D=>
      simp only[hl,A4g,A26]at q;cases D<;>simp[Aq9]at q
      subst q;exact⟨(hi.sx.ok d _ hl).1,keep _ d hl⟩
 ·refine(?_: ∀m,es.length=m->Rel w g v (.row b sz 0 m)->Rel w (g.give b aA (es.length*sz)) v (.t (.slice (.phys aA vs.size) sz es))) _ Y hv;intro m hm hv
  cases hv with
  |rowNil _ _ a ha cN=>rw[h1]at cN;cases cN
  |row _ _ _ _ aX o cap e0 n h hs ho hl hn=>
   rw[h1]at h;cases h;have dB:n=vs.size:=by simp only[World.shape?,h3,A26,A6p]at hs;exact hs.2.symm
   have dE:o=0\/es=[]:=by
    rcases ho with h'|h'
    ·left;simpa using h'
    ·right;exact Aq1 Aa
   rcases dE with rfl|tC
   ·refine .t _ _ (EA hm hl Ac Ac aI (λi x hx=>?_) (λp N hp=>by cases hp;exact⟨Y,Y,by rw[<-dB];simpa using hn⟩));have aC:=Bu hx;have hv:vs[i]?=some vs[i]:=A23 Aa;obtain⟨r1,r2⟩:=h5 i _ x hv hx;refine⟨by rw[Atj];exact hM i aC,r1,vs[i],by rw[Atj,C7 h3];exact hv,r2.mono aG.keeps⟩
   ·exact absurd tC aE
theorem RI (hi:Inv w g σ) {ρ:Nat} {L L':List Rt} (hρ:look σ ρ=some (.rights L)) {own':Nat->Prop} {sp':Nat->Option Nat} (aG:Ext w g w' {g with own:=own',sp:=sp'})
  (pQ: ∀c aA,g.β c=some (some aA)->w'.heap[aA]?=w.heap[aA]?) (eP: ∀aA,g.own aA->own' aA) (aC: ∀aA,own' aA->aA<w'.heap.size) (tE: ∀aA o,own' aA-> ¬g.oth aA o)
  (oN: ∀aA e,sp' aA=some e->aA<w'.heap.size) (kV: ∀c aA,g.β c=some (some aA)->sp' aA=none) (gI:(L'.map Prod.fst).Nodup)
  (jF: ∀q∈L',own' q.1/\sp' q.1=some q.2.2/\ ∃vs ty,w'.heap[q.1]?=some (.cells vs ty (0,0))/\vs.size=q.2.1/\q.2.2<=q.2.1)
  (m5: ∀d L1,d≠ρ->look σ d=some (.rights L1)-> ∀q∈L1,sp' q.1=g.sp q.1/\w'.heap[q.1]?=w.heap[q.1]?/\ ∀e,(q.1,e)∉L'):
  Inv w' {g with own:=own',sp:=sp'} (upd σ ρ (.rights L'))/\(∀v x,Rel w g v x->Rel w' {g with own:=own',sp:=sp'} v x):=by
 have hr: ∀v x,Rel w g v x->Rel w' {g with own:=own',sp:=sp'} v x:=λv x h=>h.mono aG.keeps (λ_ _ h=>h) aG.shape
 have two: ∀d L1,look (upd σ ρ (.rights L')) d=some (.rights L1)->(d=ρ/\L1=L')\/(d≠ρ/\look σ d=some (.rights L1)):=by
  intro d L1 q;rw[AK]at q;split at q
  ·rename_i e;subst e;cases q;exact .inl ⟨Y,Y⟩
  ·rename_i hdρ;exact .inr ⟨A6f hdρ,q⟩
 refine⟨⟨λd C hC=>?_,λd=>?_,hi.inj,λaA h=>?_,λd hd=>?_,tE,hi.im_of aG.keeps,A47 hi.lo aG.size,⟨oN,kV,λd d' L1 L2 aA e e' q1 q2 q3 q4=>?_,λd L1 q=>?_⟩⟩,hr⟩
 ·rw[AK]at hC;split at hC
  ·rename_i e;subst e;cases hC;exact hi.ok ρ _ hρ
  ·exact Fh.mono (g:=g) (g':={g with own:=own',sp:=sp'}) Y (λaA _ h=>eP aA h) (λaA hb=>pQ d aA hb) hr (hi.ok d C hC)
 ·rw[AK];by_cases e:ρ=d
  ·subst e;have:g.β ρ=some none:=hi.ok ρ _ hρ;simp[this]
  ·rw[Ug e];exact hi.dom d
 ·rcases h with h|⟨o,h⟩
  ·exact aC aA h
  ·exact A4y (hi.lt aA (.inr ⟨o,h⟩)) aG.size
 ·obtain⟨k1,cs,k2⟩:=hi.bx d hd;have hdρ:ρ≠d:=λe=>by subst e;rw[hρ]at k2;cases k2
  exact⟨k1,cs,by rw[AK,Ug hdρ];exact k2⟩
 ·rcases two _ _ q1 with⟨rfl,rfl⟩|⟨k1,k2⟩<;>rcases two _ _ q2 with⟨rfl,rfl⟩|⟨k3,k4⟩
  ·rfl
  ·exact((m5 _ _ k3 k4 _ q4).2.2 _ q3).elim
  ·exact((m5 _ _ k1 k2 _ q3).2.2 _ q4).elim
  ·exact hi.sx.one _ _ _ _ _ _ _ k2 k4 q3 q4
 ·rcases two _ _ q with⟨rfl,rfl⟩|⟨k1,k2⟩
  ·exact⟨gI,jF⟩
  ·obtain⟨r1,r2⟩:=hi.sx.ok d L1 k2;refine⟨r1,λp hp=>?_⟩;obtain⟨m1,m2,m3⟩:=r2 p hp;obtain⟨n1,n2,_⟩:=m5 d L1 k1 k2 p hp;exact⟨eP _ m1,by show sp' p.1=_;rw[n1];exact m2,by rw[n2];exact m3⟩
theorem Afm (hi:Inv w g σ) {ρ aA N e e':Nat} {L L':List Rt} (hρ:look σ ρ=some (.rights L)) (hp:(aA,N,e)∈L) {vs vs':Array Value} {et:TypeId} (hh:w.heap[aA]?=some (.cells vs et (0,0)))
  (hs:vs'.size=vs.size) (bC: ∀i,i<e->vs'[i]?=vs[i]?) (bS:e<=e') (heN:e'<=N) (hw:Sets w w' aA vs' et) (gI:(L'.map Prod.fst).Nodup) (iI: ∀q∈L',q=(aA,N,e')\/(q∈L/\q.1≠aA)):
  Ext w g w' {g with own:=g.own,sp:=λc=>if c=aA then some e' else g.sp c}/\Inv w' {g with own:=g.own,sp:=λc=>if c=aA then some e' else g.sp c} (upd σ ρ (.rights L'))/\
   (∀v x,Rel w g v x->Rel w' {g with own:=g.own,sp:=λc=>if c=aA then some e' else g.sp c} v x):=by
 obtain⟨pA,nV⟩:=hi.sx.ok ρ L hρ;obtain⟨o1,o2,vs0,ty0,o3,o4,o5⟩:=nV _ hp
 (try simp only at o1 o2 o3 o4 o5)
 rw[hh]at o3;cases o3
 have eN: ∀c p,w.shape? c=some p->w'.shape? c=some p:=by
  intro c q hq;by_cases e1:c=aA
  ·rw[e1]at hq⊢;simp only[World.shape?,hh]at hq;simp only[World.shape?,hw.new,hs];exact hq
  ·rw[GP (hw.old c e1)];exact hq
 have aG:Ext w g w' {g with own:=g.own,sp:=λc=>if c=aA then some e' else g.sp c}:=by
  refine⟨by rw[hw.size];omega,λc _ hc=>hw.old c (λe1=>hc (e1▸o1)),λ_ _ h=>h,λ_ _=>A6h,eN,λb hb=>⟨hb,Y⟩,⟨Y,hw.same⟩,λc e1 hb ho he=>?_⟩;by_cases hc:c=aA
  ·subst hc;rw[o2]at he;cases he;refine⟨λo aC=>?_,λ_=>⟨e',Ac,bS⟩⟩;rw[C7 hw.new,C7 hh];exact bC o aC
  ·exact⟨λo _=>Ch (hw.old c hc) o none,λ_=>⟨e1,by simp[hc,he],WW _⟩⟩
 have qV: ∀c b1,g.β c=some (some b1)->b1≠aA:=λc b1 h e1=>by subst e1;rw[hi.sx.bs _ _ h]at o2;cases o2
 obtain⟨k1,k2⟩:=RI hi hρ (L':=L') aG (λc b1 h=>hw.old b1 (qV c b1 h)) (λ_ h=>h) (λb1 h=>by rw[hw.size];exact hi.lt b1 (.inl h)) hi.dis (λb1 e1 h=>by
   rw[hw.size]
   (try simp only at h)
   split at h
   ·rename_i hb;subst hb;exact C9 hh
   ·exact hi.sx.lt _ _ h) (λc b1 h=>by rw[Ug (qV c b1 h)];exact hi.sx.bs _ _ h) gI (λq hq=>by
   rcases iI q hq with rfl|⟨hq,aE⟩
   ·exact⟨o1,Ac,vs',_,hw.new,by rw[hs];exact o4,heN⟩
   ·obtain⟨r1,r2,r3⟩:=nV q hq
    exact⟨r1,by simp[aE,r2],by rw[hw.old _ aE];exact r3⟩) (λd L1 hd hl q hq=>by
   have aE:q.1≠aA:=λe1=>hd (hi.sx.one _ _ _ _ _ _ _ hl hρ (show(q.1,q.2)∈L1 from hq) (by rw[e1];exact hp));refine⟨by simp[aE],hw.old _ aE,λe1 bM=>?_⟩;rcases iI _ bM with h|⟨h,_⟩
   ·exact aE (A5s Prod.fst h)
   ·exact hd (hi.sx.one _ _ _ _ _ _ _ hl hρ (show(q.1,q.2)∈L1 from hq) h))
 exact⟨aG,k1,k2⟩
theorem ZX (hi:Inv w g σ) {ρ e':Nat} {L L':List Rt} (hρ:look σ ρ=some (.rights L)) {arr:Array Value} {et:TypeId} (hm:More w w' (.cells arr et (0,0))) (k8:e'<=arr.size)
  (gI:(L'.map Prod.fst).Nodup) (iI: ∀q∈L',q=(w.heap.size,arr.size,e')\/q∈L):
  Ext w g w' {g with own:=λc=>g.own c\/c=w.heap.size,sp:=λc=>if c=w.heap.size then some e' else g.sp c}/\Inv w' {g with own:=λc=>g.own c\/c=w.heap.size,sp:=λc=>if c=w.heap.size then some e' else g.sp c} (upd σ ρ (.rights L'))/\
   (∀v x,Rel w g v x->Rel w' {g with own:=λc=>g.own c\/c=w.heap.size,sp:=λc=>if c=w.heap.size then some e' else g.sp c} v x):=by
 obtain⟨pA,nV⟩:=hi.sx.ok ρ L hρ
 have aG:Ext w g w' {g with own:=λc=>g.own c\/c=w.heap.size,sp:=λc=>if c=w.heap.size then some e' else g.sp c}:=by
  refine⟨by rw[hm.size];omega,λaA hb _=>hm.old aA hb,λaA hb h=>?_,λ_ _=>A6h,hm.shape,λb hb=>⟨hb,Y⟩,⟨Y,hm.same⟩,λc e1 hb ho he=>?_⟩
  ·rcases h with h|h
   ·exact h
   ·omega
  ·refine⟨λo _=>Ch (hm.old c hb) o none,λ_=>⟨e1,?_,WW _⟩⟩;have:c≠w.heap.size:=Aa;simp[this,he]
 have j8: ∀c b1,g.β c=some (some b1)->b1<w.heap.size:=λc b1 h=>(EX hi h).1
 obtain⟨k1,k2⟩:=RI hi hρ (L':=L') aG (λc b1 h=>hm.old b1 (j8 c b1 h)) (λ_ h=>.inl h) (λb1 h=>by
   rw[hm.size];rcases h with h|h
   ·have:=hi.lt b1 (.inl h);omega
   ·omega) (λb1 o h ho=>by
   rcases h with h|h
   ·exact hi.dis _ _ h ho
   ·subst h;have:=hi.lt _ (.inr ⟨o,ho⟩);omega) (λb1 e1 h=>by
   rw[hm.size]
   (try simp only at h)
   split at h
   ·omega
   ·have:=hi.sx.lt _ _ h;omega) (λc b1 h=>by
   have:=j8 c b1 h;have aE:b1≠w.heap.size:=Aa
   simp only[Ug aE];exact hi.sx.bs _ _ h) gI (λq hq=>by
   rcases iI q hq with rfl|hq
   ·exact⟨.inr Y,Ac,arr,et,hm.new,Y,k8⟩
   ·obtain⟨r1,r2,r3⟩:=nV q hq;have aC:=hi.sx.lt _ _ r2;have aE:q.1≠w.heap.size:=Aa
    exact⟨.inl r1,by simp[aE,r2],by rw[hm.old _ aC];exact r3⟩) (λd L1 hd hl q hq=>by
   have r2:=((hi.sx.ok d L1 hl).2 q hq).2.1;have aC:=hi.sx.lt _ _ r2;have aE:q.1≠w.heap.size:=Aa;refine⟨by simp[aE],hm.old _ aC,λe1 bM=>?_⟩;rcases iI _ bM with h|h
   ·exact aE (A5s Prod.fst h)
   ·exact hd (hi.sx.one _ _ _ _ _ _ _ hl hρ (show(q.1,q.2)∈L1 from hq) h))
 exact⟨aG,k1,k2⟩
theorem Akj {M:Nat->Nat->Prop} {v:Value} {aA N sz:Nat} {es:List (List T)} (aE:es≠[]) (h:RelT w M v (.slice (.phys aA N) sz es)):
  ∃cap,v=.slice (some ⟨aA,0,none⟩) es.length cap/\es.length<=cap/\cap*sz<=N/\(∀e∈es,e.length=sz)/\
   ∀i x,es.flatten[i]?=some x-> ¬M aA i/\CV x=true/\ ∃u,w.cell? ⟨aA,i,none⟩=some u/\RelT w M u x:=by
 cases h with
 |sliceNil=>exact absurd Y aE
 |sliceZ a _ _ hm=>exact absurd Y aE
 |slice b off len cap _ _ _ vs hl hc hf hm hp aN aU aL aJ=>
  obtain⟨rfl,rfl,h3⟩:=hp _ _ Y;subst hl
  exact⟨cap,Y,hc,h3,aN,λi x hx=>by
   have h1:=aL i x hx;rw[Atj]at h1
   exact⟨h1.1,aU i x hx,_,h1.2,aJ i x hx⟩⟩
theorem An6 (aH:Dr P te) (hi:Inv w g σ) {t ty e:Nat} (hu:P.underlying t=some (.slice e)) {ei:TI} (bK:look te e=some ei) {us ux:Value} {x:AV} {es news:List (List T)} {aA N ρ:Nat} {L:List Rt}
  (hρ:look σ ρ=some (.rights L)) (hp:(aA,N,es.length*ei.size)∈L) (aE:es≠[]) (hs:Rel w g us (.t (.slice (.phys aA N) ei.size es))) (hx:Rel w g ux x) (eX:Jb σ ei.size x=some news)
  (aW:(es.length+news.length)*(ei.bytes+1)<=140737488355328):
  ∃v w',(Builtin.append_ #[t,t] ty #[us,ux]).run P w=.ok v w'/\ ∃b' N',(∀q∈L,q.1≠aA->q.1≠b')/\ ∃g',Ext w g w' g'/\Rel w' g' v (.t (.slice (.phys b' N') ei.size (es++news)))/\(∀v x,Rel w g v x->Rel w' g' v x)/\
   ∀L':List Rt,(L'.map Prod.fst).Nodup->(∀q∈L',q=(b',N',(es++news).length*ei.size)\/(q∈L/\q.1≠aA))->Inv w' g' (upd σ ρ (.rights L')):=by
 obtain⟨ns,cR,dI,n1,n3,aU⟩:=LG (ty:=ty) aH hu bK (XV hi hx eX);obtain⟨inf,bX,cC,eD,d6⟩:=(aH _ _ bK).info';have fR:=DN (w:=w) (g:=g) (aH _ _ bK);have fL:=(aH _ _ bK).len;have fE:(BJ ei).cells.size=ei.size:=by rw[<-fL,<-Bz,<-fR.1];simp
 obtain⟨cap,rfl,gC,tH,aI,aL⟩:=Akj aE (Av hs);obtain⟨pA,nV⟩:=hi.sx.ok ρ L hρ;obtain⟨o1,o2,vs,et,o3,o4,o5⟩:=nV _ hp
 (try simp only at o1 o2 o3 o4 o5)
 have eK:=Cx ei.size es aI;have g7:=Cx ei.size news dI
 have kO: ∀e∈es++news,e.length=ei.size:=λe he=>by
  rcases A25.1 he with h|h
  ·exact aI e h
  ·exact dI e h
 have pF:(es++news).length*ei.size=es.length*ei.size+news.length*ei.size:=by rw[Xp,A6v]
 have inpl: ∀(vs':Array Value) (w':World),Sets w w' aA vs' et->vs'.size=vs.size->es.length+news.length<=cap->(∀i,i<es.length*ei.size->vs'[i]?=vs[i]?)->(∀i v,vs'[es.length*ei.size+i]?=some v->i<ns.length->ns[i]?=some v)->
   (Builtin.append_ #[t,t] ty #[.slice (some ⟨aA,0,none⟩) es.length cap,ux]).run P w=.ok (.slice (some ⟨aA,0,none⟩) (es.length+news.length) cap) w'->
   ∃v w',(Builtin.append_ #[t,t] ty #[.slice (some ⟨aA,0,none⟩) es.length cap,ux]).run P w=.ok v w'/\ ∃b' N',(∀q∈L,q.1≠aA->q.1≠b')/\ ∃g',Ext w g w' g'/\Rel w' g' v (.t (.slice (.phys b' N') ei.size (es++news)))/\(∀v x,Rel w g v x->Rel w' g' v x)/\
    ∀L':List Rt,(L'.map Prod.fst).Nodup->(∀q∈L',q=(b',N',(es++news).length*ei.size)\/(q∈L/\q.1≠aA))->Inv w' g' (upd σ ρ (.rights L')):=by
  intro vs' w' hw aN bJ bC jF aM
  have cJ:(es++news).length*ei.size<=N:=by
   rw[Xp];exact A47 (A5r _ bJ) tH
  have key:=λ(L':List Rt) gI iI=>Afm hi (L':=L') hρ hp o3 aN bC (by rw[pF];omega) cJ hw gI iI;obtain⟨k1,_,k3⟩:=key [] Ac Ac;refine⟨_,w',aM,aA,N,λq _ h=>h,_,k1,.t _ _ (EA (by rw[Xp]) bJ Ac Ac kO (λi y hy=>?_) (λp N' rT=>by cases rT;exact⟨Y,Y,tH⟩)),k3,λL' gI iI=>(key L' gI iI).2.1⟩;have aC:=Bu hy;rw[Cx ei.size _ kO]at aC;rw[Atj];refine⟨A3r (e:=(es++news).length*ei.size) o1 (hi.dis _ _ o1) Ac aC,?_⟩
  have cY: ∃v,vs'[i]?=some v:=⟨vs'[i]'(by rw[aN,o4];omega),A23 _⟩
  obtain⟨v,hv⟩:=cY;rw[A48]at hy;by_cases c:i<es.flatten.length
  ·rw[Abh c]at hy;obtain⟨_,q2,u,q3,q4⟩:=aL i y hy;rw[C7 o3,<-bC i (by rw[<-eK];exact c)]at q3;rw[hv]at q3;cases q3;exact⟨q2,v,by rw[C7 hw.new];exact hv,Av (k3 _ _ (.t _ _ q4))⟩
  ·rw[Aez Aa]at hy;have dX:=Bu hy;have o8:=jF (i-es.length*ei.size) v (by rw[show es.length*ei.size+(i-es.length*ei.size)=i from Aa];exact hv) (by rw[n1,<-eK];exact dX);rw[eK]at hy;exact⟨aU _ y hy,v,by rw[C7 hw.new];exact hv,Av (k3 _ _ (.t _ _ (n3 _ v y o8 hy)))⟩
 by_cases hnz:news.length=0
 ·have hn:ns=[]:=Aq1 (by rw[n1,g7,hnz];simp);have aM:=cR.same hnz (some ⟨aA,0,none⟩) es.length cap gC;exact inpl vs w (A3j o3) Y Aa (λ_ _=>rfl) (λi v _ h=>by rw[hn]at h;simp at h) (by rw[aM];simp[hnz])
 by_cases bJ:es.length+news.length<=cap
 ·have d8:es.length*ei.size+ns.length<=vs.size:=by
   rw[n1,g7,<-A6v,o4];exact A47 (A5r _ bJ) tH
  have aM:=cR.room hnz aA es.length cap et vs o3 bJ d8;have bU:=Sets.setRow o3 (vs.toList.take (es.length*ei.size)++ns++vs.toList.drop (es.length*ei.size+ns.length)).toArray;have dR:(vs.toList.take (es.length*ei.size)).length=es.length*ei.size:=by simp;omega
  refine inpl _ _ bU ?_ bJ (λi aC=>?_) (λi v hv aC=>?_) aM
  ·simp only[A3b,Xp,A2i,A43,A53];omega
  ·simp only[A7k];rw[A33,Abh Aa,Aoy,WU aC,Agx]
  ·simp only[A7k]at hv;rw[A33,Aez Aa,dR,Abh Aa,Nat.add_sub_cancel_left]at hv;exact hv
 ·obtain⟨os,u1,u2,u3⟩:=Ie (w:=w) (ts:=es.flatten) (b:=aA) (off:=0) (M:=g.M) (λi y hy=>by rw[Atj];exact(aL i y hy).2.2);have aM:=cR.grow hnz ⟨aA,0,none⟩ es.length cap os (by rw[u1,eK]) (λj v hv=>by rw[BS];exact u2 j v hv) Aa aW;have dN:=A63 w (es.length+news.length) cap e
  have aN:(os.toArray++ns.toArray++Builtin.zeroCells (BJ ei).cells (grownCap w (es.length+news.length) cap e-(es.length+news.length))).size=grownCap w (es.length+news.length) cap e*ei.size:=by
   simp only[A5p,A3b,A6l,fE,n1,g7,u1,eK,<-A6v];congr 1;omega
  have hm:=A3i w (.cells (os.toArray++ns.toArray++Builtin.zeroCells (BJ ei).cells (grownCap w (es.length+news.length) cap e-(es.length+news.length))) e)
  have cJ:(es++news).length*ei.size<=(os.toArray++ns.toArray++Builtin.zeroCells (BJ ei).cells (grownCap w (es.length+news.length) cap e-(es.length+news.length))).size:=by
   rw[aN,Xp];exact A5r _ dN
  have key:=λ(L':List Rt) gI (iI: ∀q∈L',q=(w.heap.size,_,(es++news).length*ei.size)\/q∈L)=>ZX hi (L':=L') hρ hm cJ gI iI;obtain⟨k1,_,k3⟩:=key [] Ac Ac;refine⟨_,_,aM,w.heap.size,_,λq hq _=>?_,_,k1,.t _ _ (EA (by rw[Xp]) dN Ac Ac kO (λi y hy=>?_) (λp N' rT=>by cases rT;exact⟨Y,Y,by rw[aN];exact WW _⟩)),k3,λL' gI iI=>(key L' gI (λq hq=>(iI q hq).imp (λh=>h) (λh=>h.1))).2.1⟩
  ·have:=hi.sx.lt _ _ (nV q hq).2.1;omega
  ·have aC:=Bu hy;rw[A48,Xp]at aC;have iP:=aC;rw[eK,g7,<-A6v,<-Xp]at iP;rw[Atj];refine⟨A3r (e:=(es++news).length*ei.size) (.inr Y) (λh=>by have:=hi.lt _ (.inr ⟨_,h⟩);omega) Ac iP,?_⟩;rw[A48]at hy;by_cases c:i<es.flatten.length
   ·rw[Abh c]at hy
    obtain⟨v,hv⟩: ∃v,os[i]?=some v:=⟨os[i]'(by rw[u1];exact c),Kv _⟩
    refine⟨(aL i y hy).2.1,v,?_,Av (k3 _ _ (.t _ _ (u3 i v y hv hy)))⟩;rw[C7 hm.new,A4a (by simp only[A5p,A3b,u1,n1];omega),A4a (by rw[A3b,u1];exact c)]
    simpa using hv
   ·rw[Aez Aa]at hy;have dX:=Bu hy
    obtain⟨v,hv⟩: ∃v,ns[i-es.flatten.length]?=some v:=⟨ns[i-es.flatten.length]'(by rw[n1];exact dX),Kv _⟩
    refine⟨aU _ y hy,v,?_,Av (k3 _ _ (.t _ _ (n3 _ v y hv hy)))⟩;rw[C7 hm.new,A4a (by simp only[A5p,A3b,u1,n1];omega),A7m (by rw[A3b,u1];omega),A3b,u1]
    simpa using hv
end
end Go.Am
namespace Go.Am
def PS (b sz:Nat) (es:List (List T)) (aA N:Nat) (y y':AV):Prop:= ∀(w:World) (g g':G),(∀v,Rel w g v (.row b sz 0 es.length)->Rel w g' v (.t (.slice (.phys aA N) sz es)))->(∀v x,Rel w g v x->Rel w g' v (BG b sz es x))-> ∀v,Rel w g v y->Rel w g' v y'
def ZR (b sz:Nat) (es:List (List T)) (aA N:Nat):List AV->List AV->Prop
 |[],[]=>True
 |x::r,y::s=>PS b sz es aA N x y/\ZR b sz es aA N r s
 |_,_=>False
section
variable {b sz:Nat} {es:List (List T)} {aA N:Nat}
theorem Aud {m:Nat} (h:m=es.length):PS b sz es aA N (.row b sz 0 m) (.t (.slice (.phys aA N) sz es)):=λw g g' h1 _ v hv=>h1 v (h▸hv)
theorem Azy {x:T}:PS b sz es aA N (.t x) (.t x):=λw g g' _ h2 v hv=>h2 v (.t x) hv
theorem ZR.get: ∀{xs ys:List AV},ZR b sz es aA N xs ys->xs.length=ys.length/\ ∀(i:Nat) y,ys[i]?=some y-> ∃x,xs[i]?=some x/\PS b sz es aA N x y
 |[],[],_=>⟨Y,λi y h=>by simp at h⟩
 |x::r,y::s,⟨h1,h2⟩=>by
  obtain⟨k1,k2⟩:=ZR.get h2;refine⟨by simp[k1],λi z hz=>?_⟩
  cases i with
  |zero=>simp at hz;subst hz;exact⟨x,Y,h1⟩
  |succ i=>simp at hz;simpa using k2 i z hz
 |[],_::_,h=>h.elim
 |_::_,[],h=>h.elim
theorem Aue {xs ys:List AV} (h:ZR b sz es aA N xs ys):PS b sz es aA N (.agg xs) (.agg ys):=λw g g' h1 h2 v hv=>by
 obtain⟨k1,k2⟩:=h.get
 cases hv with
 |agg vs _ hl hr=>
  refine .agg vs _ (by rw[hl,k1]) (λi u y hu hy=>?_);obtain⟨x,hx,hp⟩:=k2 i y hy;exact hp w g g' h1 h2 u (hr i u x hu hx)
end
section
variable {P:Program} {c:Conf} {n:Nat} {ops:Array Oper} {aD:List Oper} {env:A2} {σ:St} {o:Oper} {K:Exit->A2->St->Prop} {k:A2->St->Prop}
theorem Tr.newRights {code:Code} (d:Nat) (hl:look σ (2*d)=none) (h:Tr P n code env ((2*d,.rights [])::σ) K):Tr P n code env σ K:=by
 intro F hF bP w g a hg;have hi:=hg.inv;obtain⟨k1,k2,k3⟩:=NM (sz:=0) hi hl
 have fK:Inv w (g.with (2*d) none) ((2*d,.rights [])::σ):=by
  refine⟨λb B hB=>?_,λb=>?_,k2.inj,k2.lt,λb hb=>?_,k2.dis,k2.im,k2.lo,⟨k2.sx.lt,k2.sx.bs,λb b' L L' aA e e' h1 h2 h3 h4=>?_,λb L hL=>?_⟩⟩
  ·rw[Ap]at hB;split at hB
   ·rename_i e;subst e;cases hB;show(g.with (2*d) none).β (2*d)=some none;simp[G.with]
   ·rename_i aE;exact k2.ok b B (by rw[Ap,Ug aE];exact hB)
  ·rw[<-k2.dom b,Ap,Ap];by_cases e:2*d=b<;>simp[e]
  ·obtain⟨q1,cs,q2⟩:=k2.bx b hb;refine⟨q1,cs,?_⟩;rw[Ap]at q2⊢;split at q2
   ·cases q2
   ·rename_i aE;rw[Ug aE];exact q2
  ·rw[Ap]at h1 h2;split at h1
   ·cases h1;simp at h3
   ·split at h2
    ·cases h2;simp at h4
    ·exact hi.sx.one _ _ _ _ _ _ _ h1 h2 h3 h4
  ·rw[Ap]at hL;split at hL
   ·cases hL;exact⟨Ac,Ac⟩
   ·rename_i aE;exact k2.sx.ok b L (by rw[Ap,Ug aE];exact hL)
 exact A5d (h F hF bP w _ a ⟨hg.env.mono k3,fK,hg.defers.ext k1,hg.size⟩) λex a2 w2 hq=>hq.lift k1
theorem Ah0 (aY:ProgOk P c) {cl:Call} {so xo:Operand} {t e s0 b0 sz:Nat} {z0:List T} {bN bO:Nat} {ez:List T} {ek:TK} {es news:List (List T)} {x:AV} {aA N ρ:Nat} {L:List Rt} (ho:o.op=.call cl) (bR:cl.callee=.builtin .append) (ha:cl.args.toList=[so,xo]) (eG:cl.argTypes.toList=[t,t])
  (hs:ev env so=some (.t (.slice (.phys aA N) sz es))) (hx:ev env xo=some x) (hn:Jb σ sz x=some news) (ht:look c.te t=some ⟨s0,b0,z0,.slice e⟩) (he:look c.te e=some ⟨bN,bO,ez,ek⟩) (aN:bN=sz) (hρ:look σ ρ=some (.rights L)) (hm:(aA,N,es.length*sz)∈L) (aE:es≠[])
  (bW:(es.length+news.length)*(bO+1)<=140737488355328) {w:World} {g:G} {a:Act} (hi:Inv w g σ) (bS:AQ w g a env):
  BN P o a w λv w'=> ∃b' N',(∀q∈L,q.1≠aA->q.1≠b')/\ ∃g',Ext w g w' g'/\Rel w' g' v (.t (.slice (.phys b' N') sz (es++news)))/\AQ w' g' a env/\
   ∀L':List Rt,(L'.map Prod.fst).Nodup->(∀q∈L',q=(b',N',(es++news).length*sz)\/(q∈L/\q.1≠aA))->Inv w' g' (upd σ ρ (.rights L')):=by
 subst aN;obtain⟨dd,hd,d9⟩:=(aY.te _ _ ht).und';have hu:P.underlying t=some (.slice e):=by cases dd<;>simp[Dp]at d9;subst d9;exact hd
 obtain⟨v,w',h1,b',N',h2,g',h3,h4,h5,h6⟩:=An6 (P:=P) (ty:=o.type) aY.te hi hu he hρ hm aE (AF bS hs) (AF bS hx) hn bW;refine BN.value (v:=v) (w':=w') ?_ ⟨b',N',h2,g',h3,h4,bS.mono h5,h6⟩;have lP:cl.args= #[so,xo]:=by apply A5v;simp[ha]
 have tQ:cl.argTypes= #[t,t]:=by apply A5v;simp[eG]
 simp[execOp,ho,resolve,bR,invoke,builtin,lP,tQ,h1]
theorem Atr (aY:ProgOk P c) {cl:Call} {so xo:Operand} {t e s0 b0 sz:Nat} {z0:List T} {bN bO:Nat} {ez:List T} {ek:TK} {es news:List (List T)} {x:AV} {aA N:Nat} (ρ:Nat) {L:List Rt} (hg:o.guard=none) (ho:o.op=.call cl) (bR:cl.callee=.builtin .append) (ha:cl.args.toList=[so,xo]) (eG:cl.argTypes.toList=[t,t])
  (hs:ev env so=some (.t (.slice (.phys aA N) sz es))) (hx:ev env xo=some x) (hn:Jb σ sz x=some news) (ht:look c.te t=some ⟨s0,b0,z0,.slice e⟩) (he:look c.te e=some ⟨bN,bO,ez,ek⟩) (aN:bN=sz) (hρ:look σ ρ=some (.rights L)) (hm:(aA,N,es.length*sz)∈L) (aE:es≠[])
  (bW:(es.length+news.length)*(bO+1)<=140737488355328) (L':Nat->Nat->List Rt) (hL: ∀b' N',(∀q∈L,q.1≠aA->q.1≠b')->((L' b' N').map Prod.fst).Nodup/\ ∀q∈L' b' N',q=(b',N',(es++news).length*sz)\/(q∈L/\q.1≠aA))
  {e2:Nat->Nat->A2} (hp: ∀b' N',BM n o.dst (.t (.slice (.phys b' N') sz (es++news))) env=some (e2 b' N')) (h: ∀b' N',(∀q∈L,q.1≠aA->q.1≠b')->A6 P n ops aD (e2 b' N') (upd σ ρ (.rights (L' b' N'))) k):A6 P n ops (o::aD) env σ k:=by
 simp only[A6,Bt,hg];intro w g a hi bS;refine(Ah0 aY ho bR ha eG hs hx hn ht he aN hρ hm aE bW hi bS).mono ?_;rintro v w' ⟨b',N',h1,g',h2,h3,h4,h5⟩;obtain⟨q1,q2⟩:=hL b' N' h1;exact⟨_,_,_,⟨g',h2,h3,h5 _ q1 q2,h4⟩,e2 b' N',hp b' N',h b' N' h1⟩
def Hs (P:Program) (f:Nat) (as:List AV) (σ:St) {ι:Type} (V:ι->Prop) (r:ι->AV) (s:ι->St):Prop:=
 (∃fn,P.funcs[f]?=some fn/\fn.body.isSome=true)/\ ∀(vs:List Value) (w:World) (g:G),BB w g vs as->Inv w g σ->Calls P f vs.toArray w λe w'=> ∃v g' i,e=.returned v/\V i/\Ext w g w' g'/\Rel w' g' v (r i)/\Inv w' g' (s i)
def Avv {ι:Type} (te:TE) (rs:List ResultVar) (V:ι->Prop) (r:ι->AV) (s:ι->St) (ex:Exit) (e:A2) (st:St):Prop:=
 (ex=.normal\/ex=.ret)/\ ∃i,V i/\ ∃r0 s1 D r1,OB te true rs e st=some (r0,s1)/\KG D [(0,r0)]=[(0,r1)]/\HI D s1=s i/\Aq r1 (r i)
theorem Dz (hp:ProgOk P c) {f:Nat} {fn:Func} (hf:P.funcs[f]?=some fn) {code:Code} (hb:fn.body=some code) {as:List AV} {ι:Type} {V:ι->Prop} {r:ι->AV} {s:ι->St} (cJ:Nat.ble as.length fn.ntmps=true)
  (h:Tr P fn.ntmps code (H7 0 as) σ (Avv c.te fn.results.toList V r s)):Hs P f as σ V r s:=by
 refine⟨⟨fn,hf,by simp[hb]⟩,?_⟩;intro vs w g g6 hi;refine Jd hf hb cJ h g6 hi λex a' w' g' env' σ1 h1 h2 h3=>?_;obtain⟨eL,i,hV,r0,s1,D,r1,h4,h5,hs,h6⟩:=h3;obtain⟨v,g2,q1,q2,q3,q4⟩:=LI hp h2 h4
 have jH:Good 0 w' g2 ⟨#[v],[]⟩ [(0,r0)] s1:=⟨λt x hx=>by
  rw[Ap]at hx;split at hx
  ·rename_i e;subst e;cases hx;exact q3
  ·simp[look]at hx,q4,HJ.nil,Ac⟩
 obtain⟨g3,k1,k2⟩:=Mb D jH;rw[h5]at k2;have hv:Rel w' g3 v r1:=k2.env 0 r1 Y;exact⟨eL,v,q1,v,g3,i,Y,hV,(h1.trans q2).trans k1,h6 _ _ _ hv,hs▸k2.inv⟩
theorem Ir {ι:Type} {te:TE} {rs:List ResultVar} {V:ι->Prop} {r:ι->AV} {s:ι->St} {e:A2} {st s1:St} {r0 r1:AV} (i:ι) (hV:V i) (D:List Nat) (h:OB te true rs e st=some (r0,s1)) (h1:KG D [(0,r0)]=[(0,r1)]) (h2:HI D s1=s i) (hs:Aq r1 (r i)):Avv te rs V r s .ret e st:=
 ⟨.inr Y,i,hV,r0,s1,D,r1,h,h1,h2,hs⟩
theorem Hs.args {f:Nat} {as as0:List AV} {ι:Type} {V:ι->Prop} {r:ι->AV} {s:ι->St} (h:Hs P f as0 σ V r s) (hs:Fv as as0):Hs P f as σ V r s:=
 ⟨h.1,λvs w g hr hi=>h.2 vs w g (hs.rel hr) hi⟩
theorem JO (aY:ProgOk P c) (ι ω:List (Nat×Nat)) {cl:Call} {f:Nat} {as as0:List AV} {σ0:St} {I:Type} {V:I->Prop} {r:I->AV} {s2:I->St} {e2:I->A2} {s:I->St} (hg:o.guard=none) (ho:o.op=.call cl) (hc:DG c env cl=some (f,as)) (ha:Gq (look ι) as=as0) (n5:De ι σ ι=σ0)
  (iF:Hs P f as0 σ0 V r s2) (hR0:Ze ι ω σ []=true) (hR: ∀i,V i->Ze ι ω σ (s2 i)=true) (hs: ∀i,V i->Ll ω (s2 i)++KD ι σ σ=s i) (hp: ∀i,V i->BM n o.dst (Dn (look ω) (r i)) (T3 (G3 ι σ) env)=some (e2 i)) (h: ∀i,V i->A6 P n ops aD (e2 i) (s i) k):
  A6 P n ops (o::aD) env σ k:=by
 subst ha;subst n5;simp only[A6,Bt,hg];intro w g a hi bS;obtain⟨⟨fn,hf,hb⟩,hca⟩:=iF;obtain⟨vs,aM,aJ⟩:=Dc aY bS hc ho hf hb;refine BN.enter aM ?_;obtain⟨i1,i2⟩:=V1 hi (QY hR0);refine(hca vs w _ (aJ.ren (look ι) i2) i1).mono ?_;rintro ed w' ⟨v,g1,i,rfl,qW,q1,q2,q3⟩;obtain⟨g',k1,k2,k3,k4⟩:=Ng hi (QY (hR i qW)) q1 q3;refine⟨v,Y,_,_,_,⟨g',k1,k3 v (r i) q2,(hs i qW)▸k2,λt x hx=>?_⟩,e2 i,hp i qW,h i qW⟩;rw[NS]at hx
 cases hl:look env t with
 |none=>simp[hl]at hx
 |some y=>simp[hl]at hx;subst hx;exact k4 _ _ (bS t y hl)
end
end Go.Am
namespace Go.Am
section
variable {P:Program} {c:Conf} {n k m:Nat} {ops:Array Oper} {news:List Nat}
theorem JM.app {alt:Oper->A2->Prop} (iH:Ti ops alt): ∀{l1 l2:List Nat} {env e1 e:A2} {σ s1 s:St},JM P c alt n ops news l1 env σ e1 s1->JM P c alt n ops news l2 e1 s1 e s->JM P c alt n ops news (l1++l2) env σ e s
 |[],l2,env,e1,e,σ,s1,s,h1,h2=>h2.congr iH (λt=>h1.1 t) (λb=>h1.2 b)
 |i::r,l2,env,e1,e,σ,s1,s,⟨o,y,nb,e2,s2,a1,a2,a3,a4,a5⟩,h2=>⟨o,y,nb,e2,s2,a1,a2,a3,a4,JM.app iH a5 h2⟩
end
end Go.Am
namespace Go.Am
section
variable {P:Program} {c:Conf} {n:Nat} {ops:Array Oper} {aD:List Oper} {env:A2} {σ:St} {o:Oper} {k:A2->St->Prop}
theorem Atl (aY:ProgOk P c) {t yt e s0 b0 sz cO:Nat} {z0:List T} {xo yo:Operand} {m:SM} {es:List (List T)} {e2:Bool->A2} (hg:o.guard=none) (ho:o.op=.binOp .eql t xo yo yt) (hx:ev env xo=some (.t (.slice m sz es))) (hy:ev env yo=some (.t (.slice .nil cO [])))
  (ht:look c.te t=some ⟨s0,b0,z0,.slice e⟩) (hp: ∀b,BM n o.dst (.t (.bool b)) env=some (e2 b)) (h: ∀b,(b=true->es=[])->A6 P n ops aD (e2 b) σ k):A6 P n ops (o::aD) env σ k:=by
 simp only[A6,Bt,hg];intro w g a hi bS;have rx:=Av (AF bS hx);have ry:=Av (AF bS hy)
 have hv:a.eval yo=.slice none 0 0:=by
  generalize a.eval yo=v at ry
  cases ry with
  |sliceNil=>rfl
  |sliceZ _ _ _ hm=>exact absurd Y hm
  |slice _ _ _ _ _ _ _ _ _ _ _ hm=>exact absurd Y hm
 have hu:=G5 (aY.te _ _ ht) w Y
 have fin: ∀b,(b=true->es=[])->(execOp a.eval o).run P w=.ok (.value (.bool b)) w->BN P o a w λv w'=> ∃x e s,FI w g a x e s v w'/\RQ n o.dst x e λe2=>A6 P n ops aD e2 s k:=λb hb aM=>
  BN.value aM ⟨.t (.bool b),env,σ,⟨g,A3h _ _,.t _ _ (.bool b),hi,bS⟩,e2 b,hp b,h b hb⟩
 rcases C5 rx with⟨h1,h2⟩|⟨b,off,cap,h1,_,_,_,_,_⟩|⟨az,h1,h2,_⟩
 ·refine fin true (λ_=>h2) ?_;have:=GM (P:=P) (w:=w) (t:=t) (ID hu) Y;simp[execOp,ho,h1,hv,IA,this]
 ·refine fin false (λhb=>by cases hb) ?_;have:=GM (P:=P) (w:=w) (t:=t) (FJ (a:=⟨b,off,none⟩) (l:=es.length) (c:=cap) hu) Y;simp[execOp,ho,h1,hv,IA,this]
 ·refine fin false (λhb=>by cases hb) ?_;have:=GM (P:=P) (w:=w) (t:=t) (FJ (a:=az) (l:=0) (c:=0) hu) Y;simp[execOp,ho,h1,hv,IA,this]
theorem Ajv {news:List Nat} {t s0 b0 e:Nat} {z0:List T} {bN bO:Nat} {ez:List T} {ek:TK} {xo io:Operand} {m:SM} {sz:Nat} {es:List (List T)} {kk:IntKind} {kc:Nat} {nn:Int} {cc:List T} {e2:A2} (hg:o.guard=none) (ho:o.op=.indexAddr t xo io) (hx:ev env xo=some (.t (.slice m sz es)))
  (hi:ev env io=some (.t (.int kk nn))) (ht:look c.te t=some ⟨s0,b0,z0,.slice e⟩) (he:look c.te e=some ⟨bN,bO,ez,ek⟩) (aN:sz=bN) (hn:nn=(kc:Int)) (hc:es[kc]?=some cc) (hp:BM n o.dst (.t (.ptr cc)) env=some e2)
  (h:CG P c n ops news aD e2 σ k):CG P c n ops news (o::aD) env σ k:=by
 subst hn;simp only[CG,Bt,hg];refine⟨Af8,.t (.ptr cc),[],QI,?_,e2,hp,h⟩;unfold Cz;rw[ho];simp only[Cj,hx,hi,E0,Hf,ht,he,aN,hc,Xs]
end
end Go.Am
namespace Go.Am
section
variable {P:Program} {te:TE} {w:World} {g:G}
theorem T6 (aH:Dr P te) {t i:Nat} {u:Value} {p r:AV} (h:IC te t i p=some r) (hp:Rel w g u p):
  ∃z,(∀w',(Instr.fieldAt t u i).run P w'=.ok z w')/\Rel w g z r:=by
 obtain⟨z,h1,h2⟩:=Ly (P:=P) aH h hp;refine⟨z,λw'=>?_,h2⟩;unfold IC Ame at h;split at h
 ·rename_i off ft hf;split at hf
  ·rename_i i1 i2 i3 fs hl;obtain⟨d,u5,d9⟩:=(aH _ _ hl).und';obtain⟨gs,hd,hg⟩:=JP (aH _ _ hl) w Y
   have nN:(underlying t).run P w'=.ok (.struct gs) w':=by
    have e1:=A3a (P:=P) (w:=w) u5;rw[e1]at hd;cases hd;exact A3a u5 w'
   obtain⟨f,l9,jJ,pV⟩:=Wk hg hf;split at h
   ·rename_i fi jI;split at h
    ·simp at h
    ·rename_i n hn;have dB:fi.size≠0:=Aa;rw[<-pV]at jI
     have both: ∀b o,u=.pointer (some ⟨b,o,none⟩)->(Instr.fieldAt t u i).run P w'=.ok z w':=by
      rintro b o rfl;have k1:(Instr.fieldAt t (.pointer (some ⟨b,o,none⟩)) i).run P w=.ok (.pointer (some ⟨b,o+f.offset,none⟩)) w:=by simp[Instr.fieldAt,hd,l9,Instr.sureAddr,Fe aH w jI dB]
      rw[k1]at h1;cases h1;simp[Instr.fieldAt,nN,l9,Instr.sureAddr,Fe aH w' jI dB]
     split at h
     ·simp at h;subst h
      cases hp with
      |ref _ _ aA hb=>exact both _ _ Y
     ·simp at h;subst h
      cases hp with
      |eref _ _ _ _ aA hb=>exact both _ _ Y
     ·obtain⟨b,o,hu,_⟩:=GR (Av hp);exact both _ _ hu
     ·simp at h
   ·simp at h
  ·simp at hf
 ·simp at h
def Abi:Op->Bool
 |.move _=>true
 |.fieldAddr _ _ _=>true
 |_=>false
theorem Aob (aH:Dr P te) {a:Act} {env:A2} (he:AQ w g a env) {o:Oper} {x:AV} (ha:Abi o.op=true) (h:Cj te o.op env=some x):
  ∃v,(∀w',(execOp a.eval o).run P w'=.ok (.value v) w')/\(∀w',o.about P w' a.eval=none)/\Rel w g v x:=by
 unfold Abi at ha;split at ha
 ·rename_i y ho;simp only[ho,Cj]at h;exact⟨_,λw'=>by simp[execOp,ho],λw'=>by simp[Oper.about,ho],AF he h⟩
 ·rename_i t y i ho;simp only[ho,Cj]at h;split at h
  ·rename_i p hp;obtain⟨z,h1,h2⟩:=T6 (P:=P) aH h (AF he hp);exact⟨z,λw'=>by simp[execOp,ho,h1],λw'=>by simp[Oper.about,ho],h2⟩
  ·simp at h
 ·cases ha
end
structure DrawOkR (ops:Array Oper) (fl:List Nat) (m:Nat):Prop where
 edge: ∀(i:Nat) o,ops[i]?=some o-> ∀e∈o.after,Region.binds .any e=true->e.on<i
 head: ∀i oi,i<m->i∉fl->ops[i]?=some oi-> ∀j oj,j<i->j∉fl->ops[j]?=some oj->Pre ops j i\/oj.apart ops oi=true
 tail: ∀i,m<=i->i<ops.size->i∉fl-> ∀j,j∉fl->j<i->Pre ops j i
 le:m<=ops.size
section
variable {P:Program} {c:Conf} {n m:Nat} {ops:Array Oper} {news:List Nat}
theorem KR {F:Fence} (hF:Q3 F) (fW: ∀(i:Nat) o,ops[i]?=some o-> ∀e∈o.after,Region.binds .any e=true->e.on<i) {K:Exit->A2->St->Prop} {w0:World} {g0:G}: ∀(ts:List Nat) {fuel:Nat} {aB:Array Bool} {w:World} {g:G} {a:Act} {env:A2} {σ:St},
  aB.size=ops.size->DC ops aB->(∀i∈ts,i<ops.size)->(∀i,i<ops.size->(¬Li aB i↔i∈ts))->ts.Pairwise (· < ·)->(∀i∈ts,∀j∈ts,j<i->Pre ops j i)->ts.length<=fuel->A6 P n ops (ts.filterMap (ops[·]?)) env σ (K .normal)->Good n w g a env σ->Ext w0 g0 w g->
  wpAnyIn F 0 P .any ops (Cl n w0 g0 K) fuel aB a w
 |[],fuel,aB,w,g,a,env,σ,hs,_,_,hl,_,_,_,h,hg,hx=>by
  have gK:Region.ready .any ops aB=[]:=by
   apply A6a.2;intro i hi;rw[BR hs]at hi;obtain⟨hn,o,ho,_⟩:=hi
   have dC:i<ops.size:=by
    rcases A4i i ops.size with h|h
    ·exact h
    ·rw[A39 h]at ho;cases ho
   have:=(hl i dC).1 hn;simp at this
  have hq:Cl n w0 g0 K .normal a w:=⟨env,σ,g,hx,hg,h⟩
  cases fuel with
  |zero=>exact⟨gK,hq⟩
  |succ f=>exact⟨λ_=>hq,λi hi=>by rw[gK]at hi;simp at hi⟩
 |i::r,0,aB,w,g,a,env,σ,_,_,_,_,_,_,hf,_,_,_=>by simp at hf
 |i::r,fuel+1,aB,w,g,a,env,σ,hs,eF,gO,hl,aS,bC,hf,h,hg,hx=>by
  have cW: ∀j∈r,i<j:=(A2x.1 aS).1;have dK:i<ops.size:=gO i Ac;have ho:ops[i]?=some ops[i]:=A23 dK;have hn: ¬Li aB i:=(hl i dK).2 Ac
  have nS: ∀j,j<i->Li aB j:=λj hj=>Ya λhc=>by
   have:=(hl j Aa).1 hc;rcases Als.1 this with e|e
   ·omega
   ·have:=cW j e;omega
  have gA: ∀o2,ops[i]?=some o2-> ∀e∈o2.after,Region.binds .any e=true->Li aB e.on:=λo2 d7 e he hb=>nS _ (fW i o2 d7 e he hb)
  have cK:i∈Region.ready .any ops aB:=by
   rw[BR hs];exact⟨hn,ops[i],ho,gA _ ho⟩
  refine⟨λbD=>by rw[bD]at cK;simp at cK,λi' dC=>?_⟩;rw[BR hs]at dC;obtain⟨iO,o,dE,eO⟩:=dC
  have dF:i'<ops.size:=by
   rcases A4i i' ops.size with h|h
   ·exact h
   ·rw[A39 h]at dE;cases dE
  have dJ:=(hl i' dF).1 iO
  have hii:i'=i:=by
   rcases Als.1 dJ with e|e
   ·exact e
   ·exact absurd (Dk eF (bC i' (by simp[e]) i Ac (cW i' e)) (λo2 d7=>by rw[dE]at d7;cases d7;exact eO)) hn
  subst hii;rw[dE]at ho;cases ho;have sW:(i'::r).filterMap (ops[·]?)=ops[i']::r.filterMap (ops[·]?):=by simp[List.filterMap_cons,dE]
  rw[sW]at h;simp only[A6]at h
  have cX: ∀j,j<ops.size->(¬Li (aB.setIfInBounds i' true) j↔j∈r):=by
   intro j hj;rw[E8 Aa];have pN:=hl j hj;constructor
   ·intro hc;have:j∈i'::r:=pN.1 (λh=>hc (.inr h));rcases Als.1 this with e|e
    ·exact absurd (.inl e) hc
    ·exact e
   ·intro hm hc;rcases hc with e|e
    ·subst e;have:=cW j hm;omega
    ·exact pN.2 (by simp[hm]) e
  have gH: ∀{w':World} {g':G} {a':Act} {env':A2} {σ':St},A6 P n ops (r.filterMap (ops[·]?)) env' σ' (K .normal)->Good n w' g' a' env' σ'->Ext w0 g0 w' g'->wpAnyIn F 0 P .any ops (Cl n w0 g0 K) fuel (aB.setIfInBounds i' true) a' w':=λh1 h2 h3=>
   KR hF fW r (by simp[hs]) (eF.set Aa gA) (λj hj=>gO j (by simp[hj])) cX (A2x.1 aS).2 (λp hp q hq=>bC p (by simp[hp]) q (by simp[hq])) (by simpa using hf) h1 h2 h3
  refine HK hF dE ?_;rcases Ib hg h with⟨hw,e9,h,hg⟩|⟨hw,e9,h,hg⟩
  ·refine .inl ⟨hw,?_⟩;refine h w g a hg.inv hg.env F hF _ _ ?_;rintro v w' ⟨x,e1,s1,⟨g',k1,k2,k3,k4⟩,e2,bB,h⟩;exact gH h (Da bB ⟨k4,k3,hg.defers.ext k1,hg.size⟩ k2) (hx.trans k1)
  ·refine .inr ⟨hw,?_⟩;obtain⟨e2,bB,h⟩:=h;exact gH h (Da bB hg (.t _ _ .undef)) hx
theorem Y4 {F:Fence} (hF:Q3 F) (hp:ProgOk P c) {fl tl:List Nat} (hD:DrawOkR ops fl m) (fH: ∀i,i∈tl↔m<=i/\i<ops.size/\i∉fl) (fS:tl.Pairwise (· < ·)) {K:Exit->A2->St->Prop} {w0:World} {g0:G} {e:A2} {s:St} (dY:A6 P n ops (tl.filterMap (ops[·]?)) e s (K .normal)):
  ∀(fuel:Nat) {aB:Array Bool} {rem:List Nat} {w:World} {g:G} {a:Act} {env:A2} {σ:St},aB.size=ops.size->DC ops aB->(∀j∈fl,Li aB j)->(∀i∈tl,¬Li aB i)->
  (∀i,i∈rem↔i<m/\ ¬Li aB i)->rem.Pairwise (· < ·)->rem.length+tl.length<=fuel->JM P c Ads n ops news rem env σ e s->Good n w g a env σ->Ext w0 g0 w g->
  wpAnyIn F 0 P .any ops (Cl n w0 g0 K) fuel aB a w:=by
 intro fuel
 induction fuel with
 |zero=>
  intro aB rem w g a env σ hs eF kY dU aZ aS hf aT hg hx;have bD:rem=[]:=Aq1 Aa;subst bD;refine KR hF (λi o ho=>hD.edge i o ho) tl hs eF (λi hi=>((fH i).1 hi).2.1) (λi hi=>⟨λh=>?_,λh=>dU i h⟩) fS (λi hi j hj sR=>hD.tail i ((fH i).1 hi).1 ((fH i).1 hi).2.1 ((fH i).1 hi).2.2 j ((fH j).1 hj).2.2 sR) (by simpa using hf) dY (hg.eqv aT.1 aT.2) hx
  exact Ya λhc=>by
   rcases A4i i m with h1|h1
   ·have:=(aZ i).2 ⟨h1,h⟩;simp at this
   ·exact hc ((fH i).2 ⟨h1,hi,λhf=>h (kY i hf)⟩)
 |succ fuel ih=>
  intro aB rem w g a env σ hs eF kY dU aZ aS hf aT hg hx;by_cases bD:rem=[]
  ·subst bD;refine KR hF (λi o ho=>hD.edge i o ho) tl hs eF (λi hi=>((fH i).1 hi).2.1) (λi hi=>⟨λh=>?_,λh=>dU i h⟩) fS (λi hi j hj sR=>hD.tail i ((fH i).1 hi).1 ((fH i).1 hi).2.1 ((fH i).1 hi).2.2 j ((fH j).1 hj).2.2 sR) (by simpa using hf) dY (hg.eqv aT.1 aT.2) hx
   exact Ya λhc=>by
    rcases A4i i m with h1|h1
    ·have:=(aZ i).2 ⟨h1,h⟩;simp at this
    ·exact hc ((fH i).2 ⟨h1,hi,λhf=>h (kY i hf)⟩)
  ·obtain⟨i0,aD,rfl⟩: ∃i0 aD,rem=i0::aD:=A6r bD;have hm:=hD.le;obtain⟨dT,dB⟩:=(aZ i0).1 Ac
   have cW: ∀j,j<i0->Li aB j:=λj hj=>Ya λhc=>by
    have:=(aZ j).2 ⟨Aa,hc⟩;simp at this;rcases this with h'|h'
    ·omega
    ·have:=(A2x.1 aS).1 j h';omega
   have fQ:ops[i0]?=some ops[i0]:=A23 Aa
   have cK:i0∈Region.ready .any ops aB:=by
    rw[BR hs];exact⟨dB,ops[i0],fQ,λe he hb=>cW _ (hD.edge i0 _ fQ e he hb)⟩
   refine⟨λbD=>by rw[bD]at cK;simp at cK,λi hi=>?_⟩;rw[BR hs]at hi;obtain⟨hn,o,ho,hr⟩:=hi
   have dK:i<ops.size:=by
    rcases A4i i ops.size with h|h
    ·exact h
    ·rw[A39 h]at ho;cases ho
   have eO: ∀o2,ops[i]?=some o2-> ∀e∈o2.after,Region.binds .any e=true->Li aB e.on:=λo2 d7=>by rw[ho]at d7;cases d7;exact hr
   have iR:i<m:=Ya λhc=>dB (Dk eF (hD.tail i Aa dK (λhf=>hn (kY i hf)) i0 (λhf=>dB (kY i0 hf)) Aa) eO);have eZ:i∈i0::aD:=(aZ i).2 ⟨iR,hn⟩;obtain⟨l1,l2,bY⟩:=A7y eZ;rw[bY]at aT aS aZ hf;have aC: ∀j∈l1,j<i:=λj hj=>(A22.1 aS).2.2 j hj i Ac;have hO: ∀j∈l2,i<j:=λj hj=>(A2x.1 (A22.1 aS).2.1).1 j hj
   have hb:=W3 NL ho (l1:=l1) (l2:=l2) (λj hj=>by
    obtain⟨qR,jA⟩:=(aZ j).1 (by simp[hj]);have dA:ops[j]?=some ops[j]:=A23 Aa;refine⟨ops[j],dA,?_⟩;rcases hD.head i o iR (λhf=>hn (kY i hf)) ho j ops[j] (aC j hj) (λhf=>jA (kY j hf)) dA with h'|h'
    ·exact absurd (Dk eF h' eO) jA
    ·exact h') aT
   obtain⟨o2,y,nb,e1,s1,q1,q2,q3,q4,q5⟩:=hb;rw[ho]at q1;cases q1
   have eV: ∀j,j∈l1++l2↔j<m/\ ¬Li (aB.setIfInBounds i true) j:=by
    intro j;rw[E8 Aa];have hj:=aZ j;constructor
    ·intro dJ
     have aE:j≠i:=by
      rcases A25.1 dJ with h'|h'
      ·have:=aC j h';omega
      ·have:=hO j h';omega
     have:=hj.1 (by rcases A25.1 dJ with h'|h'<;>simp[h']);exact⟨this.1,λhc=>by rcases hc with h'|h';exact aE h';exact this.2 h'⟩
    ·rintro⟨h1,h2⟩;have aE:j≠i:=λe=>h2 (.inl e);have:=hj.2 ⟨h1,λhc=>h2 (.inr hc)⟩;simp at this⊢;rcases this with h'|h'|h'
     ·exact .inl h'
     ·exact absurd h' aE
     ·exact .inr h'
   have dP:(l1++l2).Pairwise (· < ·):=by
    refine A22.2 ⟨(A22.1 aS).1,(A2x.1 (A22.1 aS).2.1).2,λx hx y hy=>?_⟩;have:=aC x hx;have:=hO y hy;omega
   have gR: ∀j∈tl,¬Li (aB.setIfInBounds i true) j:=λj hj hc=>by
    rw[E8 Aa]at hc;rcases hc with h'|h'
    ·have:=((fH j).1 hj).1;omega
    ·exact dU j hj h'
   have eA: ∀{w':World} {g':G} {a':Act} {env':A2} {σ':St},(∀t,look env' t=look e1 t)->(∀b,look σ' b=look s1 b)->Good n w' g' a' env' σ'->Ext w0 g0 w' g'->
     wpAnyIn F 0 P .any ops (Cl n w0 g0 K) fuel (aB.setIfInBounds i true) a' w':=by
    intro w' g' a' env' σ' bM cC fA eC;exact ih (by simp[hs]) (eF.set Aa eO) (λj hj=>(E8 Aa).2 (.inr (kY j hj))) gR eV dP (by simp at hf⊢;omega) (q5.congr NL (λt=>(bM t).symm) (λb=>(cC b).symm)) fA eC
   have cM: ∀{w':World} {g':G} {v:Value} {σ':St},Good n w' g' a env σ'->Rel w' g' v y->(∀b,look σ' b=look s1 b)->Ext w0 g0 w' g'->
     wpAnyIn F 0 P .any ops (Cl n w0 g0 K) fuel (aB.setIfInBounds i true) (a.put o.dst v) w':=by
    intro w' g' v σ' fA aJ cC eC
    cases hd:o.dst with
    |none=>
     refine eA (env':=env) (λt=>?_) cC fA eC;rw[q4.1 t,hd];simp
    |some d=>
     have aC:=q3.1 d hd
     have bB:BM n (some d) y env=some ((d,y)::env):=by
      simp only[BM];have:Nat.blt d n=true:=by simpa[A6i]using aC
      rw[this]
     refine eA (env':=(d,y)::env) (λt=>?_) cC (Da bB fA aJ) eC;rw[q4.1 t,hd,Ap];simp
   refine HK hF ho ?_;rcases q3.2 with⟨_,iH,_⟩|⟨hw,cf,fB,cL⟩|⟨hw,hy,c8⟩
   ·exact iH.elim
   ·refine .inl ⟨Dl hg hw,?_⟩;refine GY hp fB hg.inv hg.env cL F hF _ _ ?_;rintro v w' ⟨g',k1,k2,k3,k4⟩;exact cM (σ':=nb++σ) ⟨k4,k3,hg.defers.ext k1,hg.size⟩ k2 (λb=>(q4.2 b).symm) (hx.trans k1)
   ·refine .inr ⟨Dl hg hw,?_⟩;subst hy;subst c8;exact cM (σ':=σ) hg (.t _ _ .undef) (λb=>(q4.2 b).symm) hx
def Jz (te:TE) (n:Nat) (ops:Array Oper):List Nat->A2->Option A2
 |[],e=>some e
 |i::r,e=>match ops[i]? with
  |some o=>(match o.guard with
   |none=>(match Abi o.op with
    |true=>(match Cj te o.op e with
     |some y=>(match BM n o.dst y e with
      |some e2=>Jz te n ops r e2
      |none=>none)
     |none=>none)
    |false=>none)
   |some _=>none)
  |none=>none
theorem KQ (aH:Dr P c.te) {F:Fence} (fT:F.round=none) (hs:Region.noSelect ops=true) {K:Exit->A2->St->Prop} (hK: ∀ch e s,¬K (.panic ch) e s) {w0:World} {g0:G} {fuel:Nat} {w:World} {g:G} {env':A2} {σ:St}: ∀(fl:List Nat) {aB:Array Bool} {a:Act} {env:A2},
  Ht ops fl aB=true->Jz c.te n ops fl env=some env'->Good n w g a env σ->
  (∀a',Good n w g a' env' σ->wpAnyIn F 0 P .any ops (Cl n w0 g0 K) fuel (Jl fl aB) a' w)->wpAnyIn F 0 P .any ops (Cl n w0 g0 K) (fuel+fl.length) aB a w
 |[],aB,a,env,_,he,hg,h=>by simp[Jz]at he;subst he;exact h a hg
 |i::r,aB,a,env,ht,he,hg,h=>by
  simp only[Ht,Qp]at ht;simp only[Jz]at he;split at he
  ·rename_i o ho;split at he
   ·rename_i c9;split at he
    ·rename_i hia;split at he
     ·rename_i y hy;split at he
      ·rename_i e2 hp;obtain⟨v,v1,v2,v3⟩:=Aob (P:=P) aH hg.env hia hy;have jH:=Da hp hg v3;refine wpAnyIn_take (fuel:=fuel+r.length) (v:=v) fT ho hs ht.1.1 ht.1.2 ?_ ⟨.inl ⟨by simp[Region.wanted,c9],v1⟩,v2⟩ ?_
       ·rintro ch a1 w1 ⟨e1,s1,g1,_,_,hk⟩;exact absurd hk (hK _ _ _)
       ·exact KQ aH fT hs hK r ht.2 he jH h
      ·cases he
     ·cases he
    ·cases he
   ·cases he
  ·cases he
def MM (i:Nat):List Nat->Bool
 |[]=>true
 |j::r=> !Nat.beq i j&&MM i r
theorem ML {i:Nat}: ∀{l:List Nat},MM i l=true↔i∉l
 |[]=>by simp[MM]
 |j::r=>by
  simp only[MM,Qp,A5y,Als,not_or,ML (l:=r)];constructor
  ·rintro⟨h1,h2⟩;exact⟨λe=>by subst e;simp at h1,h2⟩
  ·rintro⟨h1,h2⟩;exact⟨by cases h:Nat.beq i j with|false=>rfl|true=>exact absurd (A4f h) h1,h2⟩
def FX (fl:List Nat):Nat->Nat->List Nat
 |_,0=>[]
 |k,l+1=>bif MM k fl then k::FX fl (k+1) l else FX fl (k+1) l
theorem DS {fl:List Nat}: ∀{l k i:Nat},i∈FX fl k l↔k<=i/\i<k+l/\i∉fl
 |0,k,i=>by simp[FX];omega
 |l+1,k,i=>by
  simp only[FX]
  cases h:MM k fl with
  |true=>
   have hk:=ML.1 h;simp only[A6x,Als,DS (l:=l)];constructor
   ·rintro(rfl|⟨h1,h2,h3⟩)
    ·exact⟨WW _,Aa,hk⟩
    ·exact⟨Aa,Aa,h3⟩
   ·rintro⟨h1,h2,h3⟩;by_cases e:i=k
    ·exact .inl e
    ·exact .inr ⟨Aa,Aa,h3⟩
  |false=>
   have hk:k∈fl:=Ya λhc=>by rw[ML.2 hc]at h;cases h
   simp only[A61,DS (l:=l)];constructor
   ·rintro⟨h1,h2,h3⟩;exact⟨Aa,Aa,h3⟩
   ·rintro⟨h1,h2,h3⟩;have:i≠k:=λe=>by subst e;exact h3 hk
    exact⟨Aa,Aa,h3⟩
theorem HR {fl:List Nat}: ∀(l k:Nat),(FX fl k l).Pairwise (· < ·)
 |0,k=>by simp[FX]
 |l+1,k=>by
  simp only[FX]
  cases MM k fl with
  |true=>exact A2x.2 ⟨λj hj=>by have:=DS.1 hj;omega,HR l (k+1)⟩
  |false=>exact HR l (k+1)
def VL (ms:List Nat) (i:Nat):List Nat->Bool
 |[]=>true
 |j::r=>(!Nat.blt j i||Nat.testBit (ms.getD i 0) j)&&VL ms i r
theorem RV {ms:List Nat} {i:Nat}: ∀{l:List Nat},VL ms i l=true-> ∀j∈l,j<i->(ms.getD i 0).testBit j=true
 |j::r,h,k,hk,aC=>by
  simp only[VL,Qp,A6b,A5y]at h;rcases Als.1 hk with rfl|hk
  ·rcases h.1 with h'|h'
   ·have:Nat.blt k i=true:=by simpa[A6i]using aC
    rw[this]at h';cases h'
   ·exact h'
  ·exact RV h.2 k hk aC
def Kd (ops:Array Oper) (ms:List Nat) (i:Nat):List Nat->Bool
 |[]=>true
 |j::r=>(!Nat.blt j i||(Nat.testBit (ms.getD i 0) j||(match ops[j]?,ops[i]? with
  |some oj,some oi=>oj.apart ops oi
  |_,_=>false)))&&Kd ops ms i r
theorem Lf {ms:List Nat} {i:Nat}: ∀{l:List Nat},Kd ops ms i l=true-> ∀j∈l,j<i-> ∀oi oj,ops[i]?=some oi->ops[j]?=some oj->(ms.getD i 0).testBit j=true\/oj.apart ops oi=true
 |j::r,h,k,hk,aC,oi,oj,hi,hj=>by
  simp only[Kd,Qp,A6b,A5y]at h;rcases Als.1 hk with rfl|hk
  ·rcases h.1 with h'|h'|h'
   ·have:Nat.blt k i=true:=by simpa[A6i]using aC
    rw[this]at h';cases h'
   ·exact .inl h'
   ·rw[hi,hj]at h';exact .inr h'
  ·exact Lf h.2 k hk aC oi oj hi hj
def Aoa (f:Nat->Bool):List Nat->Bool
 |[]=>true
 |i::r=>f i&&Aoa f r
theorem SZ {f:Nat->Bool}: ∀{l:List Nat},Aoa f l=true-> ∀i∈l,f i=true
 |i::r,h,j,hj=>by
  simp only[Aoa,Qp]at h;rcases Als.1 hj with rfl|hj
  ·exact h.1
  ·exact SZ h.2 j hj
def Anj (ops:Array Oper) (fl:List Nat) (m:Nat):Bool:=
 let ms:=HG ops.toList [];let rs:=FX fl 0 ops.size
 Oo 0 ops.toList&&(Aoa (λi=>Kd ops ms i (FX fl 0 m)) (FX fl 0 m)&&(Aoa (λi=>VL ms i rs) (FX fl m (ops.size-m))&&(Nat.ble m ops.size&&(Region.noSelect ops&&(Ht ops fl (Array.replicate ops.size false)&&Nat.ble (fl.length+((FX fl 0 m).length+(FX fl m (ops.size-m)).length)) ops.size)))))
theorem Ani {fl:List Nat} (h:Anj ops fl m=true):DrawOkR ops fl m/\Region.noSelect ops=true/\Ht ops fl (Array.replicate ops.size false)=true/\fl.length+((FX fl 0 m).length+(FX fl m (ops.size-m)).length)<=ops.size:=by
 simp only[Anj,Qp]at h;obtain⟨h1,h2,h3,h4,h5,h6,h7⟩:=h;have cJ:m<=ops.size:=by simpa using h4
 refine⟨⟨λi o ho e he mJ=>?_,λi oi hi pP gF j oj hj sS dA=>?_,λi hi aN pP j sS hj=>?_,cJ⟩,h5,h6,by simpa using h7⟩
 ·have:=L3 h1 i o (by rw[Agx];exact ho) e he mJ;omega
 ·have:=Lf (SZ h2 i (DS.2 ⟨Aa,Aa,pP⟩)) j (DS.2 ⟨Aa,Aa,sS⟩) hj oi oj gF dA;rcases this with h'|h'
  ·exact .inl (GF _ _ h')
  ·exact .inr h'
 ·exact GF _ _ (RV (SZ h3 i (DS.2 ⟨hi,Aa,pP⟩)) j (DS.2 ⟨Aa,Aa,sS⟩) hj)
theorem OV {alt:Oper->A2->Prop} {K:A2->St->Prop}: ∀(is:List Nat),(∀i∈is,∀o,ops[i]?=some o-> ∀b∈C1 o,b∈news)->(∀i∈is,i<ops.size)-> ∀{env:A2} {σ:St},
  CG P c n ops news (is.filterMap (ops[·]?)) env σ K-> ∃e s,JM P c alt n ops news is env σ e s/\K e s
 |[],_,_,env,σ,h=>⟨env,σ,⟨λ_=>rfl,λ_=>rfl⟩,h⟩
 |i::r,hn,aC,env,σ,h=>by
  have dK:=aC i Ac;have ho:ops[i]?=some ops[i]:=A23 dK;have sW:(i::r).filterMap (ops[·]?)=ops[i]::r.filterMap (ops[·]?):=by simp[List.filterMap_cons,ho]
  rw[sW]at h;simp only[CG]at h;have iO: ∀i∈r,∀o,ops[i]?=some o-> ∀b∈C1 o,b∈news:=λx hx=>hn x (by simp[hx]);have iP: ∀i∈r,i<ops.size:=λx hx=>aC x (by simp[hx]);obtain⟨aV,bM,hc⟩:=JN h;rcases hc with⟨hw,cf,x,nb,fB,cL,env2,bB,h⟩|⟨hw,env2,bB,h⟩
  ·obtain⟨e,s,h1,h2⟩:=OV r iO iP h;obtain⟨p1,p2⟩:=GA bB bM;refine⟨e,s,⟨ops[i],x,nb,env2,nb++σ,ho,hn i Ac _ ho,⟨p1,.inr (.inl ⟨hw,cf,fB,?_⟩)⟩,⟨p2,λ_=>rfl⟩,h1⟩,h2⟩;rw[<-cL];exact Ex (DD (ops:=ops) λt _=>(bM t).symm) (λ_ _=>rfl) (λ_ _=>rfl)
  ·obtain⟨e,s,h1,h2⟩:=OV r iO iP h;obtain⟨p1,p2⟩:=GA bB bM;exact⟨e,s,⟨ops[i],.t .undef,[],env2,σ,ho,hn i Ac _ ho,⟨p1,.inr (.inr ⟨hw,Y,Y⟩)⟩,⟨p2,λ_=>rfl⟩,h1⟩,h2⟩
theorem Vr (hp:ProgOk P c) (fl:List Nat) (m:Nat) {id:Nat} {env aV env':A2} {σ σ1:St} {K:Exit->A2->St->Prop} {l1 l2:List Oper} {news:List Nat} (hd:Anj ops fl m=true) (ha:S6 ops.toList=true) (hz:regFrz ops env σ=(aV,σ1)) (aH:Jz c.te n ops fl aV=some env')
  (j9:(FX fl 0 m).filterMap (ops[·]?)=l1) (sK:(FX fl m (ops.size-m)).filterMap (ops[·]?)=l2) (hnw:FO l1=news) (hK: ∀ch e s,¬K (.panic ch) e s)
  (h:CG P c n ops news l1 env' σ1 (λenv σ=>A6 P n ops l2 env σ (K .normal))):Tr P n (.region id ops true) env σ K:=by
 subst j9;subst sK;subst hnw;refine Tr.regFrz aV σ1 hz ?_;intro F hF bP w g a hg;obtain⟨hD,j6,dR,hcnt⟩:=Ani hd
 have fT:F.round=none:=by
  rcases bP with h|h
  ·exact h
  ·simp[MN,ha]at h
 have cJ:=hD.le
 have cK: ∀i∈fl,i<(Array.replicate ops.size false).size:=λi hi=>by
  have key: ∀{l:List Nat} {ar:Array Bool},Ht ops l ar=true-> ∀i∈l,i<ops.size:=by
   intro l
   induction l with
   |nil=>intro _ _ i hi;simp at hi
   |cons x r ih=>
    intro ar ht i hi;simp only[Ht,Qp]at ht;rcases Als.1 hi with rfl|hi
    ·have:=A8e.1 ht.1.2;unfold Region.ready at this;rw[A6c,A7z]at this;exact this.1
    ·exact ih ht.2 i hi
  simpa using key dR i hi
 have mM: ∀j,Li (Jl fl (Array.replicate ops.size false)) j↔j∈fl:=λj=>by
  rw[O9 _ _ _ cK];simp[Li,A4w]
 obtain⟨e,s,h1,h2⟩:=OV (alt:=Ads) (FX fl 0 m) (λi hi o ho=>Kk (List.mem_filterMap.2 ⟨i,hi,ho⟩)) (λi hi=>by have:=DS.1 hi;omega) h;refine A7j hp.mix ?_;rw[show wpAnyIn F 0 P .any ops (Cl n w g K) ops.size=wpAnyIn F 0 P .any ops (Cl n w g K) ((ops.size-fl.length)+fl.length)by congr 1;omega];refine KQ hp.te fT j6 hK fl dR aH hg.drew (λa' k7=>?_);refine Y4 hF hp hD (tl:=FX fl m (ops.size-m)) (λi=>by rw[DS];exact⟨λ⟨a,b,c⟩=>⟨a,Aa,c⟩,λ⟨a,b,c⟩=>⟨a,Aa,c⟩⟩) (HR _ _) h2 (ops.size-fl.length) (by rw[KW];simp) (Uo _ _ Ac dR (λi o ho hl=>by simp[Li,A4w]at hl)) (λj hj=>(mM j).2 hj) (λi hi hl=>by have:=(mM i).1 hl;exact(DS.1 hi).2.2 this) (λi=>?_) (HR _ _) Aa h1 k7 (Ext.drew w g);rw[mM,DS];exact⟨λ⟨a,b,c⟩=>⟨Aa,c⟩,λ⟨b,c⟩=>⟨Aa,Aa,c⟩⟩
end
end Go.Am
namespace Go.Am
theorem A3s {P:Program} {n:Nat} {env:A2} {σ:St} {K:Exit->A2->St->Prop} {code:Code} (b off lab sz:Nat) {cs:List AV} {sz0:Nat} {es0:List (List T)} (hb:look σ b=some (.cells cs)) (hc:cs[off]?=some (.t (.slice .nil sz0 es0))) (gP:look σ (2*lab)=none)
  (h:Tr P n code env ((2*lab,.grow sz [])::upd σ b (.cells (cs.set off (.row (2*lab) sz 0 0)))) K):Tr P n code env σ K:=by
 intro F hF bP w g a hg;obtain⟨k1,k2,k3⟩:=NM (sz:=sz) hg.inv gP;have aE:2*lab≠b:=λe=>by rw[e,hb]at gP;cases gP
 obtain⟨aA,vs,e,q1,q2,q3,q4,q5⟩:=hg.inv.ok b _ hb;have hβ:(g.with (2*lab) none).β b=some (some aA):=by simp[G.with,A6f aE,q1]
 have fK:Inv w (g.with (2*lab) none) ((2*lab,.grow sz [])::upd σ b (.cells (cs.set off (.row (2*lab) sz 0 0)))):=by
  have hl: ∀c,look ((2*lab,Blk.grow sz [])::upd σ b (.cells (cs.set off (.row (2*lab) sz 0 0)))) c=if c=b then some (.cells (cs.set off (.row (2*lab) sz 0 0)))else look ((2*lab,Blk.grow sz [])::σ) c:=by
   intro c;rw[Ap,Ap,AK];by_cases e1:2*lab=c
   ·have:c≠b:=λe2=>aE (e1.trans e2);simp[e1,this]
   ·by_cases e2:b=c
    ·subst e2;simp[aE]
    ·simp[e1,e2,A6f e2]
  refine⟨λc C hC=>?_,λc=>?_,k2.inj,k2.lt,λc e7=>?_,k2.dis,k2.im,k2.lo,k2.sx.mono (WW _) Y (λ_ _ _ h=>h) (λ_ _ _ _ _=>rfl) (λc aA h=>.inl ⟨c,h⟩) (λc L hL=>?_)⟩
  ·rw[hl]at hC;split at hC
   ·rename_i e1;subst e1;cases hC;refine⟨aA,vs,e,hβ,.inl q2,q3,by simp[q4],λi v x hv hx=>?_⟩;rw[A8w]at hx;split at hx
    ·rename_i e2;split at hx
     ·cases hx;rw[<-e2]at hv;have hr:=Av (q5 off v _ hv hc)
      cases hr with
      |sliceNil=>exact .rowNil _ _ none Ac (by simp[G.with])
      |sliceZ _ _ _ hm=>exact absurd Y hm
      |slice _ _ _ _ _ _ _ _ _ _ _ hm=>exact absurd Y hm
     ·cases hx
    ·exact k3 _ _ (q5 i v x hv hx)
   ·exact k2.ok c C hC
  ·rw[hl];split
   ·rename_i e1;subst e1;rw[hβ];rfl
   ·exact k2.dom c
  ·obtain⟨r1,cs',r2⟩:=k2.bx c e7;refine⟨r1,?_⟩;rw[hl];split
   ·exact⟨_,Y⟩
   ·exact⟨cs',r2⟩
  ·rw[hl]at hL;split at hL
   ·cases hL
   ·exact hL
 exact A5d (h F hF bP w _ a ⟨hg.env.mono k3,fK,hg.defers.ext k1,hg.size⟩) λex a2 w2 hq=>hq.lift k1
theorem Uq {P:Program} {c:Conf} {n:Nat} {ops:Array Oper} {aD:List Oper} {env:A2} {σ:St} {o:Oper} {k:A2->St->Prop} {news:List Nat} {cl:Call} {f d cl' sz lo n':Nat} {as:List AV} {es:List (List T)} {e2:A2} (hg:o.guard=none) (ho:o.op=.call cl) (hb:D7 cl.callee=false) (hc:DG c env cl=some (f,as))
  (e6:ED as=true) (iF:Ct P f as [] (.row cl' sz lo n') [(cl',.grow sz es)]) (hd:o.dst=some d) (cJ:Nat.ble cl' (2*d)=true) (cU:look σ (2*d)=none) (hp:BM n o.dst (.row (2*d) sz lo n') env=some e2) (h:CG P c n ops news aD e2 ((2*d,.grow sz es)::σ) k):
  CG P c n ops news (o::aD) env σ k:=by
 simp only[CG,Bt,hg];refine⟨Sc f as [] (.row cl' sz lo n') [(cl',.grow sz es)],.row (2*d) sz lo n',[(2*d,.grow sz es)],Sa iF,?_,e2,hp,h⟩;unfold Cz;rw[ho];simp only;have hl:look [(cl',Blk.grow sz es)] cl'=some (.grow sz es):=by rw[Ap];simp
 split
 ·rename_i hq;rw[hq]at hb;simp[D7]at hb
 ·rename_i hq;rw[hq]at hb;simp[D7]at hb
 ·simp only[hc,e6,Sb,AV.free,Kw,hd,hl,cJ,cU]
theorem Tr.eqS {P:Program} {n:Nat} {env:A2} {σ:St} {K:Exit->A2->St->Prop} {code:Code} (σ':St) (hs: ∀b,look σ' b=look σ b) (h:Tr P n code env σ' K):Tr P n code env σ K:=
 λF hF bP w g a hg=>h F hF bP w g a (hg.eqv (λ_=>rfl) hs)
theorem A3t {P:Program} {n:Nat} {env:A2} {r:St} {b c:Nat} {B C:Blk} {K:Exit->A2->St->Prop} {code:Code} (aE:Nat.beq b c=false) (h:Tr P n code env ((c,C)::(b,B)::r) K):Tr P n code env ((b,B)::(c,C)::r) K:=
 Tr.eqS _ (λd=>by
  have:=Fu aE;simp only[Ap];by_cases h1:c=d<;>by_cases h2:b=d<;>simp[h1,h2]
  exact absurd (h2.trans h1.symm) this) h
end Go.Am
namespace Go.Am
theorem Di {env:A2} {o:Operand} {kk:IntKind} {nn:Int} {k d:Nat} (h:ev env o=some (.t (.int kk nn))) (hn:nn=(k:Int)):B4 env (some o) d=some k:=by
 subst hn;simp[B4,h,Hf]
theorem Jg {env:A2} {d:Nat}:B4 env none d=some d:=rfl
section
variable {P:Program} {c:Conf} {n:Nat} {ops:Array Oper} {aD:List Oper} {env:A2} {σ:St} {o:Oper} {k:A2->St->Prop} {news:List Nat}
theorem Uk {te:TE} {t e s0 b0 sz bN bO:Nat} {z0 ez:List T} {ek:TK} {m m':SM} {es:List (List T)} {lo hi mx:Option Operand} {l h:Nat} (ht:look te t=some ⟨s0,b0,z0,.slice e⟩) (he:look te e=some ⟨bN,bO,ez,ek⟩) (aN:bN=sz)
  (hh:B4 env hi es.length=some h) (hl:B4 env lo 0=some l) (h1:h<=es.length) (h2:l<=h) (hm:(mx=none/\m'=F4 m (decide (h=es.length)))\/(hi.isSome=true/\mx.isSome=true/\B4 env mx 0=some h/\m'=GD m)):
  Ix te t (.t (.slice m sz es)) env lo hi mx=some (.t (.slice m' sz ((es.drop l).take (h-l)))):=by
 subst aN;unfold Ix;simp only[ht,he,hh,hl,Xs,WU h1,WU h2];rcases hm with⟨rfl,rfl⟩|⟨q1,q2,q3,rfl⟩
 ·rfl
 ·cases mx with
  |none=>simp at q2
  |some mx=>cases hi with
   |none=>simp at q1
   |some hi=>simp only[q3,Xs]
theorem HL (aY:ProgOk P c) {t e s0 b0 sz bN bO:Nat} {z0 ez:List T} {ek:TK} {m m':SM} {es es':List (List T)} {xo:Operand} {lo hi mx:Option Operand} {l h:Nat} {e2:A2} (hg:o.guard=none) (ho:o.op=.slice t xo lo hi mx) (hx:ev env xo=some (.t (.slice m sz es))) (ht:look c.te t=some ⟨s0,b0,z0,.slice e⟩) (he:look c.te e=some ⟨bN,bO,ez,ek⟩) (aN:bN=sz)
  (hh:B4 env hi es.length=some h) (hl:B4 env lo 0=some l) (h1:h<=es.length) (h2:l<=h) (hm:(mx=none/\m'=F4 m (decide (h=es.length)))\/(hi.isSome=true/\mx.isSome=true/\B4 env mx 0=some h/\m'=GD m)) (gW:(es.drop l).take (h-l)=es')
  (hp:BM n o.dst (.t (.slice m' sz es')) env=some e2) (h:A6 P n ops aD e2 σ k):A6 P n ops (o::aD) env σ k:=by
 subst gW;refine DQ aY (x:=.t (.slice m' sz ((es.drop l).take (_-l)))) (e:=env) (s:=σ) hg ?_ hp h;unfold ES;rw[ho];simp only[Cj,hx,Uk ht he aN hh hl h1 h2 hm]
theorem N4 {t e s0 b0 sz bN bO:Nat} {z0 ez:List T} {ek:TK} {m m':SM} {es es':List (List T)} {xo:Operand} {lo hi mx:Option Operand} {l h:Nat} {e2:A2} (hg:o.guard=none) (ho:o.op=.slice t xo lo hi mx) (hx:ev env xo=some (.t (.slice m sz es))) (ht:look c.te t=some ⟨s0,b0,z0,.slice e⟩) (he:look c.te e=some ⟨bN,bO,ez,ek⟩) (aN:bN=sz)
  (hh:B4 env hi es.length=some h) (hl:B4 env lo 0=some l) (h1:h<=es.length) (h2:l<=h) (hm:(mx=none/\m'=F4 m (decide (h=es.length)))\/(hi.isSome=true/\mx.isSome=true/\B4 env mx 0=some h/\m'=GD m)) (gW:(es.drop l).take (h-l)=es')
  (hp:BM n o.dst (.t (.slice m' sz es')) env=some e2) (h:CG P c n ops news aD e2 σ k):CG P c n ops news (o::aD) env σ k:=by
 subst gW;refine R9 (x:=.t (.slice m' sz ((es.drop l).take (_-l)))) (nb:=[]) hg ?_ Y hp h;unfold Cz;rw[ho];simp only[Cj,hx,Uk ht he aN hh hl h1 h2 hm]
end
def AD (x y:T):Prop:=(CV x=true->CV y=true)/\ ∀w M v,RelT w M v x->RelT w M v y
def Fz:List T->List T->Prop
 |[],[]=>True
 |x::r,y::s=>AD x y/\Fz r s
 |_,_=>False
def E7:List (List T)->List (List T)->Prop
 |[],[]=>True
 |x::r,y::s=>Fz x y/\E7 r s
 |_,_=>False
theorem A3u (x:T):AD x x:=⟨id,λ_ _ _ h=>h⟩
theorem AD.of_eq {x y:T} (h:x=y):AD x y:=h▸A3u x
theorem AD.any {m:SM} {sz:Nat} {es:List (List T)}:AD (.slice m sz es) (.slice .any sz es):=⟨λ_=>rfl,λ_ _ _ h=>Ru h⟩
theorem AD.nil {m:SM} {sz cO:Nat}:AD (.slice m sz []) (.slice .any cO []):=⟨λ_=>rfl,λ_ _ _ h=>WO h⟩
theorem AD.sub {x y:T} (h:AD x y):Aq (.t x) (.t y):=λ_ _ _ hr=>.t _ _ (h.2 _ _ _ (Av hr))
theorem A3v: ∀l:List T,Fz l l
 |[]=>trivial
 |x::r=>⟨A3u x,A3v r⟩
theorem A3w: ∀l:List (List T),E7 l l
 |[]=>trivial
 |x::r=>⟨A3v x,A3w r⟩
theorem Fz.len: ∀{a b:List T},Fz a b->a.length=b.length
 |[],[],_=>rfl
 |x::r,y::s,h=>by simp[Fz.len h.2]
 |[],_::_,h=>h.elim
 |_::_,[],h=>h.elim
theorem Fz.get: ∀{a b:List T},Fz a b-> ∀(i:Nat) y,b[i]?=some y-> ∃x,a[i]?=some x/\AD x y
 |[],[],_,i,y,hy=>by simp at hy
 |x::r,z::s,h,0,y,hy=>by simp at hy;subst hy;exact⟨x,Y,h.1⟩
 |x::r,z::s,h,i+1,y,hy=>by
  obtain⟨u,h1,h2⟩:=Fz.get h.2 i y (by simpa using hy);exact⟨u,by simpa using h1,h2⟩
 |[],_::_,h,_,_,_=>h.elim
 |_::_,[],h,_,_,_=>h.elim
theorem Fz.app: ∀{a b c d:List T},Fz a b->Fz c d->Fz (a++c) (b++d)
 |[],[],_,_,_,h=>h
 |x::r,y::s,_,_,h1,h2=>⟨h1.1,Fz.app h1.2 h2⟩
 |[],_::_,_,_,h,_=>h.elim
 |_::_,[],_,_,h,_=>h.elim
theorem E7.flat: ∀{a b:List (List T)},E7 a b->a.length=b.length/\Fz a.flatten b.flatten/\ ∀sz,(∀e∈a,e.length=sz)-> ∀e∈b,e.length=sz
 |[],[],_=>⟨Y,trivial,λ_ _ _ h=>by simp at h⟩
 |x::r,y::s,h=>by
  obtain⟨h1,h2,h3⟩:=E7.flat h.2;refine⟨by simp[h1],by simpa using h.1.app h2,λsz hs e he=>?_⟩;rcases Als.1 he with rfl|he
  ·rw[<-h.1.len];exact hs x Ac
  ·exact h3 sz (λz hz=>hs z (by simp[hz])) e he
 |[],_::_,h=>h.elim
 |_::_,[],h=>h.elim
theorem AD.slice {m:SM} {sz:Nat} {es es':List (List T)} (h:E7 es es'):AD (.slice m sz es) (.slice .any sz es'):=by
 obtain⟨h1,h2,h3⟩:=h.flat;refine⟨λ_=>rfl,λw M v hr=>?_⟩
 cases hr with
 |sliceNil=>
  cases es' with
  |nil=>exact .sliceNil _ _
  |cons=>simp at h1
 |sliceZ a _ _ hm=>
  cases es' with
  |nil=>exact .sliceZ a _ _ Ac
  |cons=>simp at h1
 |slice b off len cap _ _ _ vs hl hc hf hm hp aN aU aL aJ=>
  refine .slice b off len cap .any sz es' vs Aa hc (λh=>by cases h) Ac (λ_ _ h=>by cases h) (h3 sz aN) (λi y hy=>?_) (λi y hy=>?_) (λi y hy=>?_)
  ·obtain⟨x,q1,q2⟩:=h2.get i y hy;exact q2.1 (aU i x q1)
  ·obtain⟨x,q1,q2⟩:=h2.get i y hy;exact aL i x q1
  ·obtain⟨x,q1,q2⟩:=h2.get i y hy;exact q2.2 _ _ _ (aJ i x q1)
theorem Jk {m:SM} {sz:Nat} {es es':List (List T)} (h:E7 es es'):Aq (.t (.slice m sz es)) (.t (.slice .any sz es')):=(AD.slice h).sub
def Kc (done:List Nat):List Edge->Bool
 |[]=>true
 |e::r=>(!Region.binds .any e||Kl e.on done)&&Kc done r
def JZ (done:List Nat):Nat->List Oper->List Nat
 |_,[]=>[]
 |i,o::r=>bif (!Kl i done&&Kc done o.after.toList)then i::JZ done (i+1) r else JZ done (i+1) r
def Jn (ops:Array Oper) (done:List Nat):List Nat:=JZ done 0 ops.toList
theorem PK {done:List Nat}: ∀{l:List Edge},Kc done l=true↔ ∀e∈l,Region.binds .any e=true->e.on∈done
 |[]=>by simp[Kc]
 |e::r=>by
  simp only[Kc,Qp,A6b,A5y,Als,PK (l:=r),I3];constructor
  ·rintro⟨h1,h2⟩ x (rfl|hx) hb
   ·rcases h1 with h1|h1
    ·rw[h1]at hb;cases hb
    ·exact h1
   ·exact h2 x hx hb
  ·intro h;refine⟨?_,λx hx=>h x (.inr hx)⟩
   cases hb:Region.binds .any e with
   |false=>exact .inl Y
   |true=>exact .inr (h e (.inl Y) hb)
theorem PI {done:List Nat}: ∀{l:List Oper} {k i:Nat},i∈JZ done k l↔k<=i/\ ∃o,l[i-k]?=some o/\i∉done/\ ∀e∈o.after,Region.binds .any e=true->e.on∈done
 |[],k,i=>by simp[JZ]
 |o::r,k,i=>by
  have key:(!Kl k done&&Kc done o.after.toList)=true↔k∉done/\ ∀e∈o.after,Region.binds .any e=true->e.on∈done:=by
   simp only[Qp,A5y,PK,Array.mem_toList_iff];refine and_congr ?_ A6h;rw[<-I3 (l:=done)];simp
  have gE:(i∈JZ done (k+1) r)↔k+1<=i/\ ∃o2,(o::r)[i-k]?=some o2/\i∉done/\ ∀e∈o2.after,Region.binds .any e=true->e.on∈done:=by
   rw[PI];refine and_congr_right λh=>?_;rw[show i-k=(i-(k+1))+1 from Aa,A5z]
  simp only[JZ]
  cases hc:(!Kl k done&&Kc done o.after.toList)with
  |true=>
   obtain⟨h1,h2⟩:=key.1 hc;simp only[A6x,Als,gE];constructor
   ·rintro(rfl|⟨h3,h4⟩)
    ·exact⟨WW _,o,Ac,h1,h2⟩
    ·exact⟨Aa,h4⟩
   ·rintro⟨h3,h4⟩;by_cases e:i=k
    ·exact .inl e
    ·exact .inr ⟨Aa,h4⟩
  |false=>
   simp only[A61,gE];constructor
   ·rintro⟨h3,h4⟩;exact⟨Aa,h4⟩
   ·rintro⟨h3,o2,h4,h5,h6⟩;by_cases e:i=k
    ·subst e;simp at h4;subst h4;rw[key.2 ⟨h5,h6⟩]at hc;cases hc
    ·exact⟨Aa,o2,h4,h5,h6⟩
theorem Aad {ops:Array Oper} {done:List Nat} {i:Nat}:i∈Jn ops done↔ ∃o,ops[i]?=some o/\i∉done/\ ∀e∈o.after,Region.binds .any e=true->e.on∈done:=by
 unfold Jn;rw[PI];simp
section
variable {P:Program} {c:Conf} {n m:Nat} {ops:Array Oper}
def NZ (P:Program) (n:Nat) (ops:Array Oper):Nat->List Nat->A2->St->(A2->St->Prop)->Prop
 |0,done,env,σ,K=>Jn ops done=[]/\K env σ
 |f+1,done,env,σ,K=>(Jn ops done=[]->K env σ)/\ ∀i∈Jn ops done,∃o,ops[i]?=some o/\A6 P n ops [o] env σ (λenv σ=>NZ P n ops f (i::done) env σ K)
theorem Vo {F:Fence} (hF:Q3 F) {K:Exit->A2->St->Prop} {w0:World} {g0:G}: ∀(fuel:Nat) {done:List Nat} {aB:Array Bool} {w:World} {g:G} {a:Act} {env:A2} {σ:St},
  aB.size=ops.size->(∀j,Li aB j↔j∈done)->NZ P n ops fuel done env σ (K .normal)->Good n w g a env σ->Ext w0 g0 w g->wpAnyIn F 0 P .any ops (Cl n w0 g0 K) fuel aB a w:=by
 have gA: ∀{done:List Nat} {aB:Array Bool},aB.size=ops.size->(∀j,Li aB j↔j∈done)-> ∀i,i∈Region.ready .any ops aB↔i∈Jn ops done:=fun{done} {aB} hs hl i=>by
  rw[BR hs,Aad];constructor
  ·rintro⟨h1,o,h2,h3⟩;exact⟨o,h2,λhc=>h1 ((hl i).2 hc),λe he hb=>(hl _).1 (h3 e he hb)⟩
  ·rintro⟨o,h2,h1,h3⟩;exact⟨λhc=>h1 ((hl i).1 hc),o,h2,λe he hb=>(hl _).2 (h3 e he hb)⟩
 intro fuel
 induction fuel with
 |zero=>
  intro done aB w g a env σ hs hl h hg hx;obtain⟨h1,h2⟩:=h;refine⟨?_,env,σ,g,hx,hg,h2⟩;rw[A6a];intro i hi;rw[gA hs hl,h1]at hi;simp at hi
 |succ fuel ih=>
  intro done aB w g a env σ hs hl h hg hx;obtain⟨h1,h2⟩:=h;refine⟨λbD=>⟨env,σ,g,hx,hg,h1 ?_⟩,λi hi=>?_⟩
  ·rw[A6a];intro i hi;rw[<-gA hs hl,bD]at hi;simp at hi
  ·obtain⟨o,ho,h⟩:=h2 i ((gA hs hl i).1 hi);have aC:i<ops.size:=(A59.1 ho).1
   have cX: ∀j,Li (aB.setIfInBounds i true) j↔j∈i::done:=λj=>by
    rw[E8 Aa,hl j,Als]
   simp only[A6]at h;refine HK hF ho ?_;rcases Ib hg h with⟨hw,e9,h,hg⟩|⟨hw,e9,h,hg⟩
   ·refine .inl ⟨hw,?_⟩;refine h w g a hg.inv hg.env F hF _ _ ?_;rintro v w' ⟨x,e1,s1,⟨g',k1,k2,k3,k4⟩,e2,bB,h⟩;exact ih (by simp[hs]) cX h (Da bB ⟨k4,k3,hg.defers.ext k1,hg.size⟩ k2) (hx.trans k1)
   ·refine .inr ⟨hw,?_⟩;obtain⟨e2,bB,h⟩:=h;exact ih (by simp[hs]) cX h (Da bB hg (.t _ _ .undef)) hx
theorem WF (hp:ProgOk P c) {id f:Nat} {env env':A2} {σ σ':St} {K:Exit->A2->St->Prop} (hf:ops.size=f) (hz:regFrz ops env σ=(env',σ')) (h:NZ P n ops f [] env' σ' (K .normal)):Tr P n (.region id ops true) env σ K:=by
 subst hf;intro F hF bP w g0 a lL;obtain⟨g,hx,hg⟩:=Fl hz lL;refine A5d ?_ λex a2 w2 (hq:Cl n w g K ex a2 w2)=>hq.lift hx;refine A7j hp.mix ?_;exact Vo hF ops.size Ac (λj=>by simp[Li,A4w]) h hg.drew (Ext.drew w g)
theorem Aei {f:Nat} {done:List Nat} {env:A2} {σ:St} {K:A2->St->Prop} (hr:Jn ops done=[]) (h:K env σ):NZ P n ops f done env σ K:=by
 cases f with
 |zero=>exact⟨hr,h⟩
 |succ f=>exact⟨λ_=>h,λi hi=>by rw[hr]at hi;simp at hi⟩
theorem JK {f i:Nat} {o:Oper} {done:List Nat} {env:A2} {σ:St} {K:A2->St->Prop} (hr:Jn ops done=[i]) (ho:ops[i]?=some o) (h:A6 P n ops [o] env σ (λenv σ=>NZ P n ops f (i::done) env σ K)):NZ P n ops (f+1) done env σ K:=
 ⟨λhc=>(by rw[hr]at hc;cases hc),λj hj=>by rw[hr]at hj;simp at hj;subst hj;exact⟨o,ho,h⟩⟩
theorem LA {f i j:Nat} {o o2:Oper} {done:List Nat} {env:A2} {σ:St} {K:A2->St->Prop} (hr:Jn ops done=[i,j]) (ho:ops[i]?=some o) (d7:ops[j]?=some o2) (h:A6 P n ops [o] env σ (λenv σ=>NZ P n ops f (i::done) env σ K)) (h2:A6 P n ops [o2] env σ (λenv σ=>NZ P n ops f (j::done) env σ K)):NZ P n ops (f+1) done env σ K:=
 ⟨λhc=>(by rw[hr]at hc;cases hc),λk hk=>by
  rw[hr]at hk;simp at hk;rcases hk with rfl|rfl
  ·exact⟨o,ho,h⟩
  ·exact⟨o2,d7,h2⟩⟩
theorem A0m {f i j l:Nat} {o o2 o3:Oper} {done:List Nat} {env:A2} {σ:St} {K:A2->St->Prop} (hr:Jn ops done=[i,j,l]) (ho:ops[i]?=some o) (d7:ops[j]?=some o2) (ho3:ops[l]?=some o3) (h:A6 P n ops [o] env σ (λenv σ=>NZ P n ops f (i::done) env σ K)) (h2:A6 P n ops [o2] env σ (λenv σ=>NZ P n ops f (j::done) env σ K)) (h3:A6 P n ops [o3] env σ (λenv σ=>NZ P n ops f (l::done) env σ K)):NZ P n ops (f+1) done env σ K:=
 ⟨λhc=>(by rw[hr]at hc;cases hc),λk hk=>by
  rw[hr]at hk;simp at hk;rcases hk with rfl|rfl|rfl
  ·exact⟨o,ho,h⟩
  ·exact⟨o2,d7,h2⟩
  ·exact⟨o3,ho3,h3⟩⟩
end
section
variable {P:Program} {c:Conf} {n:Nat} {ops:Array Oper} {aD:List Oper} {env:A2} {σ:St} {o:Oper} {K:Exit->A2->St->Prop} {k:A2->St->Prop}
theorem Aun (t b ρ:Nat) {sz:Nat} {es:List (List T)} {L:List Rt} {y:AV} (y':Nat->Nat->AV) (L':Nat->Nat->List Rt) (hg:o.guard=none) (hb:look σ b=some (.grow sz es)) (hρ:look σ ρ=some (.rights L)) (aE:es≠[]) (hy:look env t=some y)
  (iL: ∀aA N,PS b sz es aA N y (y' aA N)) (hL: ∀aA N,(∀q∈L,q.1≠aA)->((L' aA N).map Prod.fst).Nodup/\ ∀q∈L' aA N,q=(aA,N,es.length*sz)\/q∈L)
  (h: ∀aA N,(∀q∈L,q.1≠aA)->A6 P n ops (o::aD) ((t,y' aA N)::IM b sz es env) (upd (Gf b sz es σ) ρ (.rights (L' aA N))) k):A6 P n ops (o::aD) env σ k:=by
 simp only[A6,Bt,hg]at h⊢;intro w g a hi he;obtain⟨aA,N,hf,g',k1,k2,k3,k4⟩:=Arb hi hb hρ aE;obtain⟨q1,q2⟩:=hL aA N hf;refine(h aA N hf w g' a (k2 _ q1 q2) (λt' x hx=>?_)).mono ?_
 ·rw[Ap]at hx;split at hx
  ·rename_i e;subst e;cases hx;exact iL aA N w g g' k4 k3 _ (he t y hy)
  ·rw[FD]at hx
   cases hl:look env t' with
   |none=>simp[hl]at hx
   |some z=>simp[hl]at hx;subst hx;exact k3 _ _ (he t' z hl)
 ·rintro v w' ⟨x,e,s,hp,hk⟩;exact⟨x,e,s,hp.lift k1,hk⟩
theorem WQ {w:World} {g:G} (b:Nat) {sz:Nat} {es es':List (List T)} (hb:look σ b=some (.grow sz es)) (hs:E7 es es') (hi:Inv w g σ):Inv w g (upd σ b (.grow sz es')):=by
 obtain⟨h1,h2,h3⟩:=hs.flat;obtain⟨q0,jY⟩:=hi.ok b _ hb;refine⟨λd C hC=>?_,λd=>?_,hi.inj,hi.lt,λd e7=>⟨(hi.bx d e7).1,?_⟩,hi.dis,hi.im,hi.lo,hi.sx.upd b (λL h=>by cases h)⟩
 ·rw[AK]at hC;split at hC
  ·rename_i e1;subst e1;cases hC;refine⟨h3 sz q0,?_⟩;rcases jY with⟨p1,p2⟩|⟨aA,vs,e,p1,p2,p3,p4,p5⟩
   ·refine .inl ⟨p1,?_⟩;subst p2
    cases es' with
    |nil=>rfl
    |cons=>simp at h1
   ·refine .inr ⟨aA,vs,e,p1,p2,p3,by rw[<-h2.len];exact p4,λi v x hv hx=>?_⟩;obtain⟨y,r1,r2⟩:=h2.get i x hx;obtain⟨s1,s2⟩:=p5 i v y hv r1;exact⟨r2.1 s1,r2.2 _ _ _ s2⟩
  ·exact hi.ok d C hC
 ·rw[AK];by_cases e1:b=d
  ·subst e1;rw[<-hi.dom b,hb];simp
  ·simp only[Ug e1];exact hi.dom d
 ·rw[AK];split
  ·rename_i e1;subst e1;obtain⟨cs,bZ⟩:=(hi.bx b e7).2;rw[hb]at bZ;cases bZ
  ·exact(hi.bx d e7).2
theorem Tr.subGrow {code:Code} (b:Nat) {sz:Nat} {es es':List (List T)} (hb:look σ b=some (.grow sz es)) (hs:E7 es es') (h:Tr P n code env (upd σ b (.grow sz es')) K):Tr P n code env σ K:=by
 intro F hF bP w g a hg;exact h F hF bP w g a ⟨hg.env,WQ b hb hs hg.inv,hg.defers,hg.size⟩
theorem Ai2 {ι:Type} (I:ι->Prop) (E:ι->A2) (S:ι->St) {code code2:Code} {K2:Exit->A2->St->Prop} (hK: ∀e s,Tr P n code2 e s K2->K .normal e s) (h1:Tr P n code env σ (λex e s=>ex=.normal/\ ∃i,I i/\At (E i) (S i) e s)) (h2: ∀i,I i->Tr P n code2 (E i) (S i) K2):Tr P n code env σ K:=
 h1.mono λex e s ⟨he,i,hI,ha⟩=>by
  subst he;exact hK e s ((h2 i hI).weak ha)
theorem Aaw {ι:Type} {I:ι->Prop} {E:ι->A2} {S:ι->St} {e:A2} {s:St} (i:ι) (hI:I i) (D:List Nat) (h3:H9 (E i) (KG D e)) (h4:HI D s=S i):Exit.normal=Exit.normal/\ ∃i,I i/\At (E i) (S i) e s:=⟨Y,i,hI,D,h3,h4⟩
theorem Yi {α:Type}: ∀(l r:List (Nat×α)) (b:Nat),look (l++r) b=match look l b with
  |some x=>some x
  |none=>look r b
 |[],r,b=>by simp[look]
 |(k,x)::l,r,b=>by
  simp only[A5n,Ap,Yi l r b];split<;>rfl
theorem Tr.rotS {code:Code} {b:Nat} {B:Blk} {r:St} (hb:look r b=none) (h:Tr P n code env (r++[(b,B)]) K):Tr P n code env ((b,B)::r) K:=
 Tr.eqS _ (λd=>by
  rw[Yi,Ap,Ap];by_cases e:b=d
  ·subst e;simp[hb]
  ·rw[Ug e,Ug e]
   cases look r d<;>simp[look]) h
theorem WE (aY:ProgOk P c) {t e s0 b0 b sz rl len bN bO:Nat} {z0 ez:List T} {ek:TK} {xo:Operand} {lo hi:Option Operand} {l h:Nat} {e2:A2} (hg:o.guard=none) (ho:o.op=.slice t xo lo hi none) (hx:ev env xo=some (.row b sz rl len)) (ht:look c.te t=some ⟨s0,b0,z0,.slice e⟩) (he:look c.te e=some ⟨bN,bO,ez,ek⟩) (aN:bN=sz)
  (hh:B4 env hi len=some h) (hl:B4 env lo 0=some l) (h1:h<=len) (h2:l<=h) (hp:BM n o.dst (.row b sz (rl+l) (h-l)) env=some e2) (hk:A6 P n ops aD e2 σ k):A6 P n ops (o::aD) env σ k:=by
 refine DQ aY (x:=.row b sz (rl+l) (h-l)) (e:=env) (s:=σ) hg ?_ hp hk;unfold ES;rw[ho];simp only[Cj,hx,Ix,ht,he,hh,hl,WU h1,WU h2,aN,Xs]
end
section
variable {P:Program} {c:Conf} {n:Nat} {ops:Array Oper} {aD:List Oper} {env:A2} {σ:St} {o:Oper} {k:A2->St->Prop} {news:List Nat}
theorem Sx {te:TE} {t e s0 b0 b sz lo len bN bO kc:Nat} {z0 ez:List T} {ek:TK} {kk:IntKind} {nn:Int} (ht:look te t=some ⟨s0,b0,z0,.slice e⟩) (he:look te e=some ⟨bN,bO,ez,ek⟩) (aN:bN=sz) (hn:nn=(kc:Int)) (aC:kc<len):
  E0 te t (.row b sz lo len) (.t (.int kk nn))=some (.eref b sz (lo+kc) 0):=by
 subst hn;subst aN;unfold E0;simp only[Hf,ht,he,Xs,WU aC]
theorem Cb (aY:ProgOk P c) {t e s0 b0 b sz lo len bN bO kc:Nat} {z0 ez:List T} {ek:TK} {kk:IntKind} {nn:Int} {xo io:Operand} {e2:A2} (hg:o.guard=none) (ho:o.op=.indexAddr t xo io) (hx:ev env xo=some (.row b sz lo len)) (hi:ev env io=some (.t (.int kk nn)))
  (ht:look c.te t=some ⟨s0,b0,z0,.slice e⟩) (he:look c.te e=some ⟨bN,bO,ez,ek⟩) (aN:bN=sz) (hn:nn=(kc:Int)) (aC:kc<len) (hp:BM n o.dst (.eref b sz (lo+kc) 0) env=some e2) (h:A6 P n ops aD e2 σ k):A6 P n ops (o::aD) env σ k:=by
 refine DQ aY (x:=.eref b sz (lo+kc) 0) (e:=env) (s:=σ) hg ?_ hp h;unfold ES;rw[ho];simp only[Cj,hx,hi,Sx ht he aN hn aC]
theorem RA {t e s0 b0 b sz lo len bN bO kc:Nat} {z0 ez:List T} {ek:TK} {kk:IntKind} {nn:Int} {xo io:Operand} {e2:A2} (hg:o.guard=none) (ho:o.op=.indexAddr t xo io) (hx:ev env xo=some (.row b sz lo len)) (hi:ev env io=some (.t (.int kk nn)))
  (ht:look c.te t=some ⟨s0,b0,z0,.slice e⟩) (he:look c.te e=some ⟨bN,bO,ez,ek⟩) (aN:bN=sz) (hn:nn=(kc:Int)) (aC:kc<len) (hp:BM n o.dst (.eref b sz (lo+kc) 0) env=some e2) (h:CG P c n ops news aD e2 σ k):CG P c n ops news (o::aD) env σ k:=by
 refine R9 (x:=.eref b sz (lo+kc) 0) (nb:=[]) hg ?_ Y hp h;unfold Cz;rw[ho];simp only[Cj,hx,hi,Sx ht he aN hn aC]
theorem UH {te:TE} {t b sz kc off:Nat} {ti:TI} {es:List (List T)} {e:List T} {y:T} (ht:look te t=some ti) (hb:look σ b=some (.grow sz es)) (he:es[kc]?=some e) (ha:ti.kind.agg=false) (hy:e[off]?=some y):I6 te t (.eref b sz kc off) σ=some (.t y):=by
 unfold I6;simp only[ht,hb,Xs,he,ha,hy]
theorem Aoz (aY:ProgOk P c) {t b sz kc off:Nat} {ti:TI} {es:List (List T)} {e:List T} {y:T} {xo:Operand} {e2:A2} (hg:o.guard=none) (ho:o.op=.load t xo) (hx:ev env xo=some (.eref b sz kc off)) (ht:look c.te t=some ti) (hb:look σ b=some (.grow sz es)) (he:es[kc]?=some e) (ha:ti.kind.agg=false) (hy:e[off]?=some y) (hp:BM n o.dst (.t y) env=some e2) (h:A6 P n ops aD e2 σ k):A6 P n ops (o::aD) env σ k:=by
 refine DQ aY (x:=.t y) (e:=env) (s:=σ) hg ?_ hp h;unfold ES;rw[ho];simp only[Gp,ho,hx,UH ht hb he ha hy]
theorem V8 {t b sz kc off:Nat} {ti:TI} {es:List (List T)} {e:List T} {y:T} {xo:Operand} {e2:A2} (hg:o.guard=none) (ho:o.op=.load t xo) (hx:ev env xo=some (.eref b sz kc off)) (hm:Kl b news=false) (ht:look c.te t=some ti) (hb:look σ b=some (.grow sz es)) (he:es[kc]?=some e) (ha:ti.kind.agg=false) (hy:e[off]?=some y) (hp:BM n o.dst (.t y) env=some e2) (h:CG P c n ops news aD e2 σ k):CG P c n ops news (o::aD) env σ k:=by
 refine R9 (x:=.t y) (nb:=[]) hg ?_ Y hp h;unfold Cz;rw[ho];simp only[hx,Ss,hm,UH ht hb he ha hy]
theorem E9 (aY:ProgOk P c) {t b sz kc off:Nat} {ti:TI} {es:List (List T)} {e:List T} {y:AV} {ts:List T} {po xo:Operand} {env' e2:A2} {σ':St} (hg:o.guard=none) (ho:o.op=.store t po xo) (hz:Ke o env σ=(env',σ')) (hpo:ev env' po=some (.eref b sz kc off)) (hxo:ev env' xo=some y) (ht:look c.te t=some ti) (hc:II y=some (Af ts)) (tN:allT (Af ts)=some ts) (hl:(Af ts).length=ti.size)
  (hb:look σ' b=some (.grow sz es)) (he:es[kc]?=some e) (cJ:Nat.ble (off+ti.size) sz=true) (hp:BM n o.dst (.t .undef) env'=some e2) (h:A6 P n ops aD e2 (upd σ' b (.grow sz (es.set kc (F3 e off ts)))) k):A6 P n ops (o::aD) env σ k:=by
 have nD:off+ti.size<=sz:=by simpa using cJ
 refine DQ aY (x:=.t .undef) (e:=env') (s:=upd σ' b (.grow sz (es.set kc (F3 e off ts)))) hg ?_ hp h;unfold ES;rw[ho];simp only[hz,Gp,ho,hpo,hxo,F0,ht,hc,hl,hb,Xs,he,tN,WU nD]
theorem Abd {f:Nat} {xs ys:List AV} {r:AV} (h:Ct P f ys [] r []) (hs:HC r=true) (hl:KE σ xs=some ys) {vs:List Value} {w:World} {g:G} (hr:BB w g vs xs) (hi:Inv w g σ):
  Calls P f vs.toArray w λe w'=> ∃v,e=.returned v/\Ext w g w' g/\Rel w' g v r/\Inv w' g σ/\ ∀v x,Rel w g v x->Rel w' g v x:=by
 refine(h.2 vs w (g.lend σ) (OO hi hl hr) (Ym hi)).mono ?_;rintro e w' ⟨v,g',rfl,hx,hv,dC⟩;have cV: ∀aA,aA<w.heap.size->w'.heap[aA]?=w.heap[aA]?:=λaA hb=>hx.keep aA hb (λh=>h)
 have aG:Ext w g w' g:=⟨hx.size,λaA hb _=>cV aA hb,λ_ _ h=>h,λ_ _=>A6h,hx.shape,λ_ h=>⟨h,Y⟩,⟨Y,hx.lo.2⟩,Hu (λ_ _ _ _ h=>h) (λaA e hb _ _=>cV aA hb)⟩
 have bQ: ∀v x,Rel w g v x->Rel w' g v x:=λv x hr=>hr.mono aG.keeps (λ_ _ h=>h) hx.shape;refine⟨v,Y,aG,Up hv hs,⟨λb B hB=>?_,hi.dom,hi.inj,λaA hb=>A4y (hi.lt aA hb) hx.size,hi.bx,hi.dis,hi.im_of aG.keeps,A47 hi.lo hx.size,hi.sx.mono hx.size Y (λ_ _ _ h=>h) (λaA e h _ _=>cV aA (hi.sx.lt _ _ h)) (λc aA h=>.inl ⟨c,h⟩) (λ_ _ h=>h)⟩,bQ⟩;have bA:=hi.ok b B hB;refine bA.mono Y (λ_ _ h=>h) (λaA hb=>cV _ ?_) bQ;exact(EX hi hb).1
theorem FL (aY:ProgOk P c) {cl:Call} {f:Nat} {as ys:List AV} {e2:A2} {r:AV} (hg:o.guard=none) (ho:o.op=.call cl) (hc:DG c env cl=some (f,as)) (hl:KE σ as=some ys) (iF:Ct P f ys [] r []) (hs:HC r=true) (hp:BM n o.dst r env=some e2) (h:A6 P n ops aD e2 σ k):A6 P n ops (o::aD) env σ k:=by
 simp only[A6,Bt,hg];intro w g a hi bS;obtain⟨⟨fn,hf,hb⟩,hca⟩:=id iF;obtain⟨vs,aM,aJ⟩:=Dc aY bS hc ho hf hb;refine BN.enter aM ?_;refine(Abd iF hs hl aJ hi).mono ?_;rintro ed w' ⟨v,rfl,q1,q2,q3,q4⟩;exact⟨v,Y,_,_,_,⟨g,q1,q2,q3,bS.mono q4⟩,e2,hp,h⟩
def A0n (ops:Array Oper) (fl:List Nat) (f:Nat):Bool:=Region.noSelect ops&&(Ht ops fl (Array.replicate ops.size false)&&(S6 ops.toList&&Nat.beq ops.size (f+fl.length)))
theorem TT (hp:ProgOk P c) (fl:List Nat) (f:Nat) {id:Nat} {aV env':A2} {σ1:St} {K:Exit->A2->St->Prop} (hd:A0n ops fl f=true) (hz:regFrz ops env σ=(aV,σ1)) (aH:Jz c.te n ops fl aV=some env') (hK: ∀ch e s,¬K (.panic ch) e s) (h:NZ P n ops f fl env' σ1 (K .normal)):Tr P n (.region id ops true) env σ K:=by
 simp only[A0n,Qp]at hd;obtain⟨j6,dR,ha,aN⟩:=hd;have aN:=A4f aN;refine Tr.regFrz aV σ1 hz ?_;intro F hF bP w g a hg
 have fT:F.round=none:=by
  rcases bP with h|h
  ·exact h
  ·simp[MN,ha]at h
 have cK: ∀i∈fl,i<(Array.replicate ops.size false).size:=λi hi=>by
  have key: ∀{l:List Nat} {ar:Array Bool},Ht ops l ar=true-> ∀i∈l,i<ops.size:=by
   intro l
   induction l with
   |nil=>intro _ _ i hi;simp at hi
   |cons x r ih=>
    intro ar ht i hi;simp only[Ht,Qp]at ht;rcases Als.1 hi with rfl|hi
    ·have:=A8e.1 ht.1.2;unfold Region.ready at this;rw[A6c,A7z]at this;exact this.1
    ·exact ih ht.2 i hi
  simpa using key dR i hi
 have mM: ∀j,Li (Jl fl (Array.replicate ops.size false)) j↔j∈fl:=λj=>by
  rw[O9 _ _ _ cK];simp[Li,A4w]
 refine A7j hp.mix ?_;rw[show wpAnyIn F 0 P .any ops (Cl n w g K) ops.size=wpAnyIn F 0 P .any ops (Cl n w g K) (f+fl.length)by rw[aN]];refine KQ hp.te fT j6 hK fl dR aH hg.drew (λa' k7=>?_);exact Vo hF f (by rw[KW];simp) mM h k7 (Ext.drew w g)
end
theorem Ta: ∀{l l':List (List T)} {k:Nat} {x y:List T},E7 l l'->l'[k]?=some y->Fz x y->E7 (l.set k x) l'
 |[],[],k,x,y,_,h,_=>by simp at h
 |a::r,b::s,0,x,y,h,hk,hx=>by simp at hk;subst hk;exact⟨hx,h.2⟩
 |a::r,b::s,k+1,x,y,h,hk,hx=>⟨h.1,Ta h.2 (by simpa using hk) hx⟩
 |[],_::_,_,_,_,h,_,_=>h.elim
 |_::_,[],_,_,_,h,_,_=>h.elim
section
variable {P:Program} {c:Conf} {n:Nat} {ops:Array Oper} {aD:List Oper} {env:A2} {σ:St} {o:Oper} {k:A2->St->Prop}
def W4 (te:TE) (t m:Nat) (env:A2) (parts:List (Nat×Operand)):Option (List AV):=
 match look te t with
 |some ⟨_,_,_,.slice e⟩=>match look te e with
  |some ei=>if m*ei.size<=16777216 then(if ei.size=1 then(match Dx env parts with
   |some ps=>G4 (λi=>some (i*ei.size,ei.size)) ps (Af (N9 ei.zero m))
   |none=>none)else none)else none
  |none=>none
 |_=>none
theorem UU {place:Nat->Option (Nat×Nat)}: ∀(ps:List (Nat×AV)) (cs cs':List AV),G4 place ps cs=some cs'->cs'.length=cs.length
 |[],cs,cs',h=>by simp[G4]at h;rw[h]
 |(i,x)::r,cs,cs',h=>by
  simp only[G4]at h;split at h
  ·split at h
   ·split at h
    ·split at h
     ·rw[UU r _ _ h,Ha _ _ _ Aa]
     ·simp at h
    ·simp at h
   ·simp at h
  ·simp at h
theorem TF {te:TE} (aH:Dr P te) {w:World} {g:G} {a:Act} {env:A2} (he:AQ w g a env) {t m:Nat} {parts:Array (Nat×Operand)} {cs:List AV} (h:W4 te t m env parts.toList=some cs):
  ∃aK e w',(Instr.buildSlice t m (parts.map λp=>(p.1,a.eval p.2))).run P w=.ok (.slice (some ⟨w.heap.size,0,none⟩) m m) w'/\More w w' (.cells aK e (0,0))/\BB w g aK.toList cs/\cs.length=m:=by
 unfold W4 at h;split at h
 ·rename_i i1 i2 i3 e hl;have hu:=G5 (aH _ _ hl) w Y;split at h
  ·rename_i ei bK;have aN:=C0 (aH _ _ bK) w;have hz:=DI (aH _ _ bK) w;have fR:=DN (w:=w) (g:=g) (aH _ _ bK);have fL:=(aH _ _ bK).len;split at h
   ·rename_i m4;split at h
    ·rename_i aU;split at h
     ·rename_i ps iL
      obtain⟨zc,i4⟩: ∃zc:Array Value,zc=(if m*ei.size=0 then #[]else(BJ ei).cells):=⟨_,Y⟩
      have fE:(BJ ei).cells.size=ei.size:=by rw[<-fL,<-Bz,<-fR.1];simp
      have kC:BB w g ((Array.range (m*ei.size)).map (zc[· % zc.size]!)).toList (Af (N9 ei.zero m)):=by
       refine⟨by simp[Bz,Iy,fL],λi v x hv hx=>?_⟩;have aC:i<m*ei.size:=by have:=Bu hx;rw[Bz,Iy,fL]at this;exact this
       have aE:m*ei.size≠0:=Aa;have dH:0<ei.size:=Aa;rw[Ug aE]at i4;subst i4;rw[CK,RK _ _ _ (by rw[fL];exact aC),fL]at hx;have hm:i % ei.size<ei.size:=Nat.mod_lt _ dH;simp only[Array.toList_map,Array.toList_range,A42,A7e aC,A4g,A26,fE]at hv
       have fP:(BJ ei).cells.toList[i % ei.size]?=some v:=by
        rw[<-hv,Agx,getElem!_pos _ _ (by rw[fE];exact hm),A23 (by rw[fE];exact hm)]
       exact fR.2 _ v x fP (by rw[CK];exact hx)
      obtain⟨aK,f1,f2⟩:=JE (λi=>some (i*ei.size,ei.size)) h kC (Kz he iL);have bR:cs.length=m:=by rw[UU _ _ _ h,Bz,Iy,fL,aU,A62]
      refine⟨aK,e,_,?_,More.alloc w (.cells aK e),f2,bR⟩;have cS: ¬(m*ei.size>2^24):=Aa
      have f1':Instr.fill (λi=>some (i*ei.size,ei.size)) ((Array.range (m*ei.size)).map (zc[· % zc.size]!)) (parts.map λp=>(p.1,a.eval p.2)).toList=some aK:=by
       rw[<-f1];simp
      simp only[Instr.buildSlice,Ake,hu,Y5,aN];rw[Ug cS];by_cases dB:m*ei.size=0
      ·rw[WU dB]at i4⊢;subst i4;simp only[A4t,Y5,Ake,f1',newRow,newObj,Sem.run];rfl
      ·rw[Ug dB]at i4⊢;subst i4;simp only[A4t,Y5,hz,Ake,f1',newRow,newObj,Sem.run];rfl
     ·simp at h
    ·simp at h
   ·simp at h
  ·simp at h
 ·simp at h
theorem FT (aY:ProgOk P c) {t m d:Nat} {parts:Array (Nat×Operand)} {cs:List AV} {e2:A2} (hg:o.guard=none) (ho:o.op=.buildSlice t m parts) (hd:o.dst=some d) (hl:look σ (2*d)=none) (hs:W4 c.te t m env parts.toList=some cs)
  (hp:BM n o.dst (.row (2*d) 1 0 m) env=some e2) (h:A6 P n ops aD e2 ((2*d,.cells cs)::σ) k):A6 P n ops (o::aD) env σ k:=by
 simp only[A6,Bt,hg];intro w g a hi bS;obtain⟨aK,e,w',h1,h2,h3,h4⟩:=TF (P:=P) aY.te bS hs;obtain⟨k1,k2,k3⟩:=HS hi hl h2 (B:=.cells cs) (λhr=>⟨w.heap.size,aK,e,by simp[G.with],.inr Y,h2.new,by rw[<-h3.1];simp,λi v x hv hx=>hr _ _ (h3.2 i v x (by rw[Agx];exact hv) hx)⟩);refine BN.value (v:=.slice (some ⟨w.heap.size,0,none⟩) m m) (w':=w') ?_ ⟨_,_,_,⟨_,k1,?_,k2,bS.mono k3⟩,e2,hp,h⟩
 ·simp only[execOp,ho,Ake];simp[h1]
 ·have bZ:aK.size=m:=by have:=h3.1;simp at this;omega
  exact .row (2*d) 1 0 m w.heap.size 0 m e aK.size (by simp[G.with]) (by simp[World.shape?,h2.new]) (.inl Ac) (WW _) (by rw[bZ];omega)
theorem Ui {w:World} {g:G} {te:TE} (aH:Dr P te) (hi:Inv w g σ) {t ty e:Nat} (hu:P.underlying t=some (.slice e)) {ei:TI} (bK:look te e=some ei) (h1:ei.size=1) {ux:Value} {b m:Nat} {ds:List AV} (hb:look σ b=some (.cells ds)) (hm:ds.length=m) (oA:m≠0)
  (hr:Rel w g ux (.row b 1 0 m)) (ha:Dq ds=true): ∃ns,SrcOk P w t t ty e ux m ns ei/\BB w g ns ds:=by
 obtain⟨inf,bX,cC,eD,d6⟩:=(aH _ _ bK).info';obtain⟨aA,vs,et,q1,q2,q3⟩:=LK hi hb
 cases hr with
 |rowNil _ _ a0 _ _=>exact absurd Y oA
 |row _ _ _ _ aX off capx e0 n0 hβ hsh lI gC dB=>
  rw[q1]at hβ;cases hβ;have fQ:off=0:=by rcases lI with h'|h'<;>omega
  subst fQ;have o7:vs.toList.length=m:=by rw[q3.1,hm]
  have aL: ∀(j:Nat) v,vs.toList[j]?=some v->w.cell? ((⟨aA,0,none⟩:Addr).add j)=some v:=λj v hv=>by
   rw[BS,C7 q2,Atj,<-Agx];exact hv
  have eH:=q3.one ha;refine⟨vs.toList,⟨λh0=>absurd h0 oA,λ_ aX bE cG et' cur hg bJ d8=>?_,λ_ jR=>?_,λ_ b' bE cG olds eT holds aC jR=>?_⟩,q3⟩
  ·have:=Zt (P:=P) t ty e inf hu bX aX bE cG et' cur hg ⟨aA,0,none⟩ m capx vs.toList (by rw[o7,cC,h1,A62]) aL eH bJ (by rw[cC];exact d8);rw[cC]at this;exact this
  ·have hbs:=Dh jR;exact run_append_nil (P:=P) w t ty e inf (BJ ei) hu bX d6 ⟨aA,0,none⟩ m capx vs.toList (by rw[o7,cC,h1,A62]) aL Aa Aa (by rw[eD];omega)
  ·have hbs:=Dh jR;exact run_append_grow (P:=P) w t ty e inf (BJ ei) hu bX d6 b' bE cG olds (by rw[eT,cC]) holds ⟨aA,0,none⟩ m capx vs.toList (by rw[o7,cC,h1,A62]) aL Aa Aa (growslice_fits Aa (by rw[eD];omega))
theorem U7 {w w':World} {g:G} {a:Act} {lab e m cap:Nat} {xs:List AV} {ns:List Value} {zs:Array Value} (hi:Inv w g σ) (hl:look σ lab=none) (he:AQ w g a env) (hr:BB w g ns xs) (hm:xs.length=m) (jL:m+zs.size=cap) (hw:More w w' (.cells (ns.toArray++zs) e (0,0))):
  ∃j,FI w g a (.row lab 1 0 m) env ((lab,.cells (xs++List.replicate j .top))::σ) (.slice (some ⟨w.heap.size,0,none⟩) m cap) w':=by
 have hn:ns.length=m:=by rw[hr.1,hm]
 refine⟨zs.size,?_⟩;have aN:(ns.toArray++zs).size=m+zs.size:=by simp[hn]
 have fX:(∀v x,Rel w g v x->Rel w' (g.with lab (some w.heap.size)) v x)->Fh w' (g.with lab (some w.heap.size)) lab (.cells (xs++List.replicate zs.size .top)):=λeO=>by
  refine⟨w.heap.size,_,e,by simp[G.with],.inr Y,hw.new,by simp[hn,hm],λi v x hv hx=>?_⟩;by_cases aC:i<m
  ·rw[Abh Aa]at hx;rw[A4a (by simp;omega)]at hv;exact eO _ _ (hr.2 i v x (by simpa using hv) hx)
  ·rw[Aez Aa,A70]at hx;split at hx
   ·cases hx;exact .top _
   ·cases hx
 obtain⟨k1,k2,k3⟩:=HS hi hl hw fX;refine⟨_,k1,?_,k2,he.mono k3⟩;exact .row lab 1 0 m w.heap.size 0 cap e (ns.toArray++zs).size (by simp[G.with]) (by simp only[World.shape?,hw.new]) (.inl Ac) Aa (by rw[aN];omega)
theorem Jj (aY:ProgOk P c) {cl:Call} {so xo:Operand} {t e d s0 b0 sz0 b m bO:Nat} {z0 ez:List T} {ek:TK} {es0:List (List T)} {ds:List AV} {e2:A2} (hg:o.guard=none) (ho:o.op=.call cl) (bR:cl.callee=.builtin .append) (ha:cl.args= #[so,xo])
  (eG:cl.argTypes= #[t,t]) (hd:o.dst=some d) (hs:ev env so=some (.t (.slice .nil sz0 es0))) (hx:ev env xo=some (.row b 1 0 m)) (ht:look c.te t=some ⟨s0,b0,z0,.slice e⟩) (he:look c.te e=some ⟨1,bO,ez,ek⟩)
  (hb:look σ b=some (.cells ds)) (hm:ds.length=m) (dH:0<m) (aU:Dq ds=true) (hl:look σ (2*d)=none) (bW:m*(bO+1)<=140737488355328) (hp:BM n o.dst (.row (2*d) 1 0 m) env=some e2)
  (h: ∀j,A6 P n ops aD e2 ((2*d,.cells (ds++List.replicate j .top))::σ) k):A6 P n ops (o::aD) env σ k:=by
 simp only[A6,Bt,hg];intro w g a hi bS;have iC:=OI aY ht
 have gU:a.eval so=.slice none 0 0:=by
  rcases C5 (Av (AF bS hs))with⟨h1,_⟩|⟨_,_,_,_,_,_,h1,_⟩|⟨_,_,_,h1⟩
  ·exact h1
  ·exact absurd Y h1
  ·exact absurd Y h1
 obtain⟨ns,cR,j6⟩:=Ui (ty:=o.type) aY.te hi iC he Y hb hm Aa (AF bS hx) aU;have aM:=cR.nil Aa bW;have dN:=A63 w m 0 e;have fE:(BJ (⟨1,bO,ez,ek⟩:TI)).cells.size=1:=My (aY.te _ _ he);obtain⟨j,eW⟩:=U7 (m:=m) (cap:=grownCap w m 0 e) (zs:=Builtin.zeroCells (BJ (⟨1,bO,ez,ek⟩:TI)).cells (grownCap w m 0 e-m)) hi hl bS j6 hm (by rw[A6l,fE];omega) (A3i w _);exact BN.value (v:=.slice (some ⟨w.heap.size,0,none⟩) m (grownCap w m 0 e)) (w':=w.drew.alloc (.cells (ns.toArray++Builtin.zeroCells (BJ (⟨1,bO,ez,ek⟩:TI)).cells (grownCap w m 0 e-m)) e)) (by simp[execOp,ho,resolve,bR,invoke,builtin,ha,eG,gU,aM]) ⟨_,_,_,eW,e2,hp,h j⟩
theorem NB {w:World} {g:G} {b:Nat} {vs:List Value} {xs:List AV} (h:BB w g vs xs) (hb:KJ b xs=false):BB w (g.without b) vs xs:=
 ⟨h.1,λi v x hv hx=>Rel.mono_but (g:=g) (g':=g.without b) b (λ_ _ _ h1 h2=>⟨h1,h2⟩) (λc p hc hp=>by simp only[G.without,Ug hc];exact hp) (λ_ _ hp=>hp) (h.2 i v x hv hx) (JA hb i x hx)⟩
theorem M4 (aY:ProgOk P c) {cl:Call} {so xo:Operand} {t e s0 b0 b b' len m bO:Nat} {z0 ez:List T} {ek:TK} {cs ds:List AV} {e2:A2} (hg:o.guard=none) (ho:o.op=.call cl) (bR:cl.callee=.builtin .append) (ha:cl.args= #[so,xo])
  (eG:cl.argTypes= #[t,t]) (hs:ev env so=some (.row b 1 0 len)) (hx:ev env xo=some (.row b' 1 0 m)) (ht:look c.te t=some ⟨s0,b0,z0,.slice e⟩) (he:look c.te e=some ⟨1,bO,ez,ek⟩)
  (hb:look σ b=some (.cells cs)) (aO:Nat.ble len cs.length=true) (gX:Nat.beq (b % 2) 0=true) (cN:look σ b'=some (.cells ds)) (hm:ds.length=m) (pE:0<len) (dH:0<m) (aU:Dq ds=true) (cH:KJ b (cs.take len)=false) (rX:KJ b ds=false)
  (bW:(len+m)*(bO+1)<=140737488355328) (hp:BM n o.dst (.row b 1 0 (len+m)) (Gv b env)=some e2)
  (h: ∀j,A6 P n ops aD e2 ((b,.cells (cs.take len++ds++List.replicate j .top))::CX b σ) k):A6 P n ops (o::aD) env σ k:=by
 simp only[A6,Bt,hg];intro w g a hi bS;have aO:=A6g aO;have iC:=OI aY ht;obtain⟨ns,cR,j6⟩:=Ui (ty:=o.type) aY.te hi iC he Y cN hm Aa (AF bS hx) aU;obtain⟨aG,dM,hk⟩:=Yq hi b (λhb=>by have:=(hi.bx _ hb).1;have:=A4f gX;omega);have bM:=hk a env bS;have cU:look (CX b σ) b=none:=by rw[DL];simp
 have fE:(BJ (⟨1,bO,ez,ek⟩:TI)).cells.size=1:=My (aY.te _ _ he);have o7:ns.length=m:=by rw[j6.1,hm]
 obtain⟨aA,vs,et,h1,h2,h3,h4,h5⟩:=hi.ok b _ hb;have cA:=AF bS hs;generalize gU:a.eval so=us at cA
 cases cA with
 |rowNil _ _ a0 _ _=>exact absurd Y (by omega: ¬(0:Nat)=0)
 |row _ _ _ _ aX off cap e0 n0 hβ hsh lI gC dB=>
  rw[h1]at hβ;cases hβ;have fQ:off=0:=by rcases lI with h'|h'<;>omega
  subst fQ;have pB:n0=vs.size:=by simp only[World.shape?,h3,A26,A6p]at hsh;exact hsh.2.symm
  have hold:BB w g (vs.toList.take len) (cs.take len):=⟨by simp[h4],λi v x hv hx=>by
   rw[Aoy]at hv hx;split at hv
   ·rename_i aC;rw[WU aC]at hx;exact h5 i v x (by rw[<-Agx];exact hv) hx
   ·simp at hv⟩
  have aI:BB w (g.without b) (vs.toList.take len++ns) (cs.take len++ds):=by
   have q1:=NB hold cH;have q2:=NB j6 rX;refine⟨by simp only[Xp];rw[q1.1,q2.1],λi v x hv hx=>?_⟩;by_cases aC:i<(cs.take len).length
   ·rw[Abh aC]at hx;rw[Abh (by rw[q1.1];exact aC)]at hv;exact q1.2 i v x hv hx
   ·rw[Aez Aa]at hx;rw[Aez (by rw[q1.1];omega),q1.1]at hv;exact q2.2 _ v x hv hx
  have dY:(vs.toList.take len).length=len:=by simp;omega
  have qA:(cs.take len++ds).length=len+m:=by simp;omega
  by_cases bJ:len+m<=cap
  ·have d8:len*1+ns.length<=vs.size:=Aa;have aM:=cR.room Aa aA len cap et vs h3 bJ d8
   have gZ:(vs.toList.take (len*1)++ns++vs.toList.drop (len*1+ns.length)).toArray.size=vs.size:=by
    simp only[A3b,Xp,A2i,A43,A53];omega
   have bU:=Sets.setRow h3 (vs.toList.take (len*1)++ns++vs.toList.drop (len*1+ns.length)).toArray
   have m7: ∀c,(g.without b).β c≠some (some aA):=by
    intro c hc;simp only[G.without]at hc;split at hc
    ·cases hc
    ·rename_i aE;exact aE (hi.inj _ _ _ hc h1)
   have fX:(∀v x,Rel w (g.without b) v x->Rel (w.setRow aA (vs.toList.take (len*1)++ns++vs.toList.drop (len*1+ns.length)).toArray) ((g.without b).with b (some aA)) v x)->
     Fh (w.setRow aA (vs.toList.take (len*1)++ns++vs.toList.drop (len*1+ns.length)).toArray) ((g.without b).with b (some aA)) b (.cells (cs.take len++ds++List.replicate (vs.size-(len+m)) .top)):=λeO=>by
    refine⟨aA,_,et,by simp[G.with],.inr Y,bU.new,by rw[gZ,Xp,qA,List.length_replicate];omega,λi v x hv hx=>?_⟩;by_cases aC:i<len+m
    ·rw[Abh Aa]at hx;have cY:(vs.toList.take (len*1)++ns++vs.toList.drop (len*1+ns.length))[i]?=some v:=by simpa using hv
     rw[A62,Abh (by rw[Xp,dY,o7];exact aC)]at cY;exact eO _ _ (aI.2 i v x cY hx)
    ·rw[Aez Aa,A70]at hx;split at hx
     ·cases hx;exact .top _
     ·cases hx
   obtain⟨k1,k2,k3⟩:=NA dM cU h2 (hi.sx.bs _ _ h1) m7 h3 gZ bU fX
   refine BN.value (v:=.slice (some ⟨aA,0,none⟩) (len+m) cap) (w':=w.setRow aA (vs.toList.take (len*1)++ns++vs.toList.drop (len*1+ns.length)).toArray) (by
    simp only[execOp,ho,resolve,bR,invoke,builtin,ha,eG,gU,Ake,A4t,Y5];simp[gU,aM]) ⟨_,_,_,⟨_,aG.trans k1,?_,k2,bM.mono k3⟩,e2,hp,h _⟩
   exact .row b 1 0 _ aA 0 cap e0 n0 (by simp[G.with]) (k1.shape _ _ hsh) (.inl Ac) bJ dB
  ·have holds: ∀(j:Nat) v,(vs.toList.take len)[j]?=some v->w.cell? ((⟨aA,0,none⟩:Addr).add j)=some v:=by
    intro j v hv;rw[Aoy]at hv;split at hv
    ·rw[BS,C7 h3,<-Agx,Atj];exact hv
    ·simp at hv
   have aM:=cR.grow Aa ⟨aA,0,none⟩ len cap (vs.toList.take len) (by rw[dY,A62]) holds Aa bW;have dN:=A63 w (len+m) cap e;have nU:(vs.toList.take len).toArray++ns.toArray=(vs.toList.take len++ns).toArray:=Ac;obtain⟨j,eW⟩:=U7 (e:=e) (m:=len+m) (cap:=grownCap w (len+m) cap e) (zs:=Builtin.zeroCells (BJ (⟨1,bO,ez,ek⟩:TI)).cells (grownCap w (len+m) cap e-(len+m))) dM cU bM aI qA (by rw[A6l,fE];omega) (A3i w _)
   exact BN.value (v:=.slice (some ⟨w.heap.size,0,none⟩) (len+m) (grownCap w (len+m) cap e)) (w':=w.drew.alloc (.cells ((vs.toList.take len++ns).toArray++Builtin.zeroCells (BJ (⟨1,bO,ez,ek⟩:TI)).cells (grownCap w (len+m) cap e-(len+m))) e)) (by
    rw[<-nU];simp only[execOp,ho,resolve,bR,invoke,builtin,ha,eG,gU,Ake,A4t,Y5];simp[gU,aM]) ⟨_,_,_,eW.lift aG,e2,hp,h j⟩
theorem WG (aY:ProgOk P c) {t b kc:Nat} {ti:TI} {cs:List AV} {y:AV} {xo:Operand} {e2:A2} (hg:o.guard=none) (ho:o.op=.load t xo) (hx:ev env xo=some (.eref b 1 kc 0)) (ht:look c.te t=some ti) (hb:look σ b=some (.cells cs)) (he:cs[kc]?=some y) (ha:ti.kind.agg=false)
  (hp:BM n o.dst y env=some e2) (h:A6 P n ops aD e2 σ k):A6 P n ops (o::aD) env σ k:=by
 simp only[A6,Bt,hg];intro w g a hi bS;have hr:=AF bS hx;obtain⟨aX,vs,e,h1,h2,h3⟩:=LK hi hb;generalize hu:a.eval xo=ux at hr
 cases hr with
  |eref _ _ _ _ aA hβ=>
   rw[h1]at hβ;cases hβ;have aC:=Bu he;have aN:=(aY.te _ _ ht).one ha
   obtain⟨v,hv⟩: ∃v,vs.toList[kc]?=some v:=⟨vs.toList[kc]'(by rw[h3.1];exact aC),Kv _⟩
   have aM:=Jc (P:=P) aY.te (w:=w) ht (b:=aX) (off:=kc*1+0) (vs:=[v]) (by simp[aN]) (λi u hu=>by
    cases i with
    |zero=>simp at hu;subst hu;rw[C7 h2,<-Agx];simpa using hv
    |succ i=>simp at hu)
   rw[ha]at aM;exact BN.value (v:=v) (w':=w) (by have oQ:(loadVar t ⟨aX,kc,none⟩).run P w=.ok v w:=(by simpa using aM);simp[execOp,ho,hu,Instr.loadAt,Instr.sureAddr,oQ]) ⟨_,_,_,⟨g,A3h _ _,h3.2 kc v y hv he,hi,bS⟩,e2,hp,h⟩
end
section
variable {P:Program} {c:Conf} {n:Nat} {ops:Array Oper} {aD:List Oper} {env:A2} {σ:St} {o:Oper} {k:A2->St->Prop} {news:List Nat}
theorem ZL {te:TE} {t s0 b0:Nat} {z0:List T} {s:List UInt8} {lo hi:Option Operand} {l h:Nat} (ht:look te t=some ⟨s0,b0,z0,.string⟩) (hh:B4 env hi s.length=some h) (hl:B4 env lo 0=some l) (h1:h<=s.length) (h2:l<=h):Ix te t (.t (.str s)) env lo hi none=some (.t (.str ((s.drop l).take (h-l)))):=by
 unfold Ix;simp only[ht,hh,hl,WU h1,WU h2]
theorem Ai0 (aY:ProgOk P c) {t s0 b0:Nat} {z0:List T} {xo:Operand} {s r:List UInt8} {lo hi:Option Operand} {l h:Nat} {e2:A2} (hg:o.guard=none) (ho:o.op=.slice t xo lo hi none) (hx:ev env xo=some (.t (.str s))) (ht:look c.te t=some ⟨s0,b0,z0,.string⟩)
  (hh:B4 env hi s.length=some h) (hl:B4 env lo 0=some l) (h1:h<=s.length) (h2:l<=h) (hr:(s.drop l).take (h-l)=r) (hp:BM n o.dst (.t (.str r)) env=some e2)
  (hk:A6 P n ops aD e2 σ k):A6 P n ops (o::aD) env σ k:=by
 subst hr;refine DQ aY (x:=.t (.str ((s.drop l).take (h-l)))) (e:=env) (s:=σ) hg ?_ hp hk;unfold ES;rw[ho];simp only[Cj,hx,ZL ht hh hl h1 h2]
end
section
variable {P:Program} {c:Conf} {n:Nat} {ops:Array Oper} {aD:List Oper} {env:A2} {σ:St} {o:Oper} {k:A2->St->Prop} {news:List Nat}
theorem Abc {te:TE} {t b sz kc off:Nat} {ti:TI} {es:List (List T)} {e ys:List T} (ht:look te t=some ti) (hb:look σ b=some (.grow sz es)) (he:es[kc]?=some e) (ha:ti.kind.agg=true) (hy:F9 ti.size (e.drop off)=some ys):I6 te t (.eref b sz kc off) σ=some (.agg (Af ys)):=by
 unfold I6;simp only[ht,hb,Xs,he,ha,hy]
theorem F8 (aY:ProgOk P c) {t b sz kc off:Nat} {ti:TI} {es:List (List T)} {e ys:List T} {xo:Operand} {e2:A2} (hg:o.guard=none) (ho:o.op=.load t xo) (hx:ev env xo=some (.eref b sz kc off)) (ht:look c.te t=some ti) (hb:look σ b=some (.grow sz es)) (he:es[kc]?=some e) (ha:ti.kind.agg=true) (hy:F9 ti.size (e.drop off)=some ys) (hp:BM n o.dst (.agg (Af ys)) env=some e2) (h:A6 P n ops aD e2 σ k):A6 P n ops (o::aD) env σ k:=by
 refine DQ aY (x:=.agg (Af ys)) (e:=env) (s:=σ) hg ?_ hp h;unfold ES;rw[ho];simp only[Gp,ho,hx,Abc ht hb he ha hy]
theorem J7 {es:List (List T)} {b sz m:Nat} {x:T} (h:look σ b=some (.grow sz es)) (hm:m=es.length):KE σ [.row b sz 0 m,.t x]=some [.t (.slice .any sz es),.t x]:=by
 subst hm;have t1:es.take es.length=es:=QQ (WW _);have t2:es.length.ble es.length=true:=Ac;simp[KE,HH,h,t1,t2]
end
section
variable {P:Program} {c:Conf} {n:Nat} {ops:Array Oper} {aD:List Oper} {env:A2} {σ:St} {o:Oper} {k:A2->St->Prop}
theorem A3x {code:Code} {K:Exit->A2->St->Prop} (b:Nat) {sz:Nat} {es:List (List T)} (hb:look σ b=some (.grow sz es)) (h:Tr P n code (IM b sz es env) (Gf b sz es σ) K):Tr P n code env σ K:=by
 intro F hF bP w g a hg;obtain⟨k1,k2,k3⟩:=freeze hg.inv hb;refine A5d (h F hF bP w _ a ⟨λt x hx=>?_,k2,hg.defers.ext k1,hg.size⟩) λex a2 w2 hq=>hq.lift k1;rw[FD]at hx
 cases hl:look env t with
 |none=>simp[hl]at hx
 |some z=>simp[hl]at hx;subst hx;exact k3 _ _ (hg.env t z hl)
theorem FA (t b:Nat) {sz:Nat} {es:List (List T)} {y y':AV} (hg:o.guard=none) (hb:look σ b=some (.grow sz es)) (hy:look env t=some y) (iA:BG b sz es y=y') (h:A6 P n ops (o::aD) ((t,y')::IM b sz es env) (Gf b sz es σ) k):A6 P n ops (o::aD) env σ k:=by
 simp only[A6,Bt,hg]at h⊢;intro w g a hi he;obtain⟨k1,k2,k3⟩:=freeze hi hb;refine(h w _ a k2 (λt' x hx=>?_)).mono ?_
 ·rw[Ap]at hx;split at hx
  ·rename_i e;subst e;cases hx;rw[<-iA];exact k3 _ _ (he t y hy)
  ·rw[FD]at hx
   cases hl:look env t' with
   |none=>simp[hl]at hx
   |some z=>simp[hl]at hx;subst hx;exact k3 _ _ (he t' z hl)
 ·rintro v w' ⟨x,e,s,hp,hk⟩;exact⟨x,e,s,hp.lift k1,hk⟩
end
section
variable {P:Program} {c:Conf} {n:Nat} {ops:Array Oper} {aD:List Oper} {env:A2} {σ:St} {o:Oper} {k:A2->St->Prop}
theorem QZ (aY:ProgOk P c) {t m e h:Nat} {xo:Operand} {hi:Option Operand} {cs:List T} {ti ei:TI} {e2:A2} (hg:o.guard=none) (ho:o.op=.slice t xo none hi none) (hx:ev env xo=some (.t (.ptr cs))) (ht:look c.te t=some ti) (hk:ti.kind=.array m e) (he:look c.te e=some ei)
  (hl:m*ei.size<=cs.length) (hm:m≠0) (hh:B4 env hi m=some h) (h1:h<=m) (hp:BM n o.dst (.t (.slice .any ei.size ((CH ei.size m (cs.take (m*ei.size))).take h))) env=some e2) (hK:A6 P n ops aD e2 σ k):A6 P n ops (o::aD) env σ k:=by
 simp only[A6,Bt,hg];intro w g a cK bS;have aH:=aY.te;have hd:=Ic (aH _ _ ht) w hk;have aN:=C0 (aH _ _ he) w;obtain⟨b,off,hv,hc⟩:=GR (Av (AF bS hx));have hb:=E4 (P:=P) (w:=w) bS (s:=false) (len:=m) (cap:=m) (lo:=none) (hi:=hi) (l:=0) (h:=h) hh Y h1 (A5t _);simp only[Option.map_none]at hb
 have aM:(Instr.sliceAt t (a.eval xo) none (hi.map a.eval) none).run P w=.ok (.slice (some ⟨b,off,none⟩) h m) w:=by
  rw[hv];simp[Instr.sliceAt,hd,hb,aN,Instr.sureAddr,asAddr,Addr.add,hm]
 obtain⟨q1,q2,q3⟩:=K4 ei.size m (cs.take (m*ei.size)) (by rw[A2i];omega);refine BN.value (v:=.slice (some ⟨b,off,none⟩) h m) (w':=w) ?_ ⟨_,env,σ,⟨g,A3h _ _,.t _ _ (EA (m:=.any) (by rw[A2i,q3];omega) h1 (by intro e;cases e) Ac (λx hx=>q2 x (A3c hx)) (λi x hx=>?_)),cK,bS⟩,e2,hp,hK⟩
 ·simp[execOp,ho,aM]
 ·have:=Do ei.size (CH ei.size m (cs.take (m*ei.size))) q2 0 h i x (by simpa using hx);rw[q1]at this
  have h2:cs[i]?=some x:=by
   simp only[Nat.zero_mul,Atj,Aoy]at this;split at this
   ·exact this
   ·cases this
  exact hc i x h2
end
