/- Lemmas toward the law; each names its conditions. -/
import Derived.Test.YtppffhlbcgpgdaaGreatDoorYKT
set_option linter.all false
set_option maxRecDepth 100000
set_option maxHeartbeats 8000000
namespace Go.Proofs.YtppffhlbcgpgdaaGreatDoor
open Go.Am
attribute [local irreducible] Decidable.decide
def z0 (r:Row):Row:={r with offset:=0}
def eB (x:Int):Int:=if x= -1 then-1 else 0
def eS (s:Seen):Seen:={s with s6:=eB s.s6}
def eP (p:Prod):Prod:={p with s9:=p.s9.map eS}
theorem Eg (l:List Prod) (k:Int):H6 (l.map eP) k=H6 l k:=by
 unfold H6;rw[List.any_map];rfl
theorem Bn (l:List Prod) (k:Int):BK (l.map eP) k=eP (BK l k):=by
 unfold BK;rw[List.find?_map];have e:((λp:Prod=>decide (p.lO=k))∘eP)=(λp:Prod=>decide (p.lO=k)):=rfl;rw[e];cases l.find? (λp:Prod=>decide (p.lO=k))<;>rfl
theorem Pq (l:List Prod) (b:Batch):K1 (l.map eP) b=eP (K1 l b):=by
 unfold K1;rw[Eg,Bn];have e:(eP (BK l b.lO)).lT=(BK l b.lO).lT:=rfl;rw[e];split<;>rfl
theorem El (l:List Prod) (b:Batch):Gx (l.map eP) b=Gx l b:=by
 unfold Gx;rw[Eg,Bn];rfl
theorem Lc (l:List Seen) (b:Batch):(l.map eS).any (KC b)=l.any (KC b):=by
 rw[List.any_map];rfl
theorem Ed (l:List Prod) (b:Batch):(K1 (l.map eP) b).s9=(K1 l b).s9.map eS:=by rw[Pq];rfl
theorem M9 (l:List Prod) (b:Batch):(K1 (l.map eP) b).next=(K1 l b).next:=by rw[Pq];rfl
theorem Pp (l:List Prod) (b:Batch):GJ (l.map eP) b=GJ l b:=by
 unfold GJ;rw[El,Ed,M9,Lc]
theorem Qj (l:List Prod) (b:Batch):Mw (l.map eP) b=Mw l b:=by
 unfold Mw;rw[El,Ed,Lc]
theorem Na (l:List Prod) (b:Batch):Md (l.map eP) b=eB (Md l b):=by
 unfold Md;rw[Ed,M9,Lc];have e:(KC b∘eS)=KC b:=rfl;rw[List.find?_map,e];split
 ·cases (K1 l b).s9.find? (KC b)<;>rfl
 ·split<;>rfl
theorem Hx {l l':List Prod} {b:Batch} (h:l.map eP=l'.map eP) (hl:EN l=true) (cX:EN l'=true):C6 l b=C6 l' b/\Ff l b=Ff l' b/\eB (L8 l b)=eB (L8 l' b):=by
 unfold C6 Ff L8 SP;rw[hl,cX,<-Pp l,<-Pp l',<-Qj l,<-Qj l',<-El l,<-El l',h];refine⟨Y,Y,?_⟩;split
 ·split
  ·rfl
  ·rw[<-Na,<-Na,h]
 ·rfl
theorem Qe (l:List Prod) (b:Batch):NW (l.map eP) b=(NW l b).map eS:=by
 unfold NW;rw[Bn];have e:(eP (BK l b.lO)).lT=(BK l b.lO).lT:=rfl;rw[e];split<;>rfl
theorem Hr (l:List Prod) (b:Batch) (n:Int):Gh (l.map eP) b (eB n)=eP (Gh l b n):=by
 simp only[Gh,eP,Qe,Z9,A7r,A38,Xp,Ts,A5h,A8j,A2z,A46];rfl
theorem Ef (l:List Prod) (p:Prod):(I8 Prod.lO p l).map eP=I8 Prod.lO (eP p) (l.map eP):=by
 unfold I8;rw[A38,A5h,List.filter_map,List.filter_map];rfl
theorem Et {l l':List Prod} {b:Batch} {n n':Int} (h:l.map eP=l'.map eP) (hl:EN l=true) (cX:EN l'=true) (hn:eB n=eB n'):(O8 l (Gh l b n)).map eP=(O8 l' (Gh l' b n')).map eP:=by
 rw[N2 (EG.1 hl).1,N2 (EG.1 cX).1,Ef,Ef,<-Hr,<-Hr,h,hn]
theorem Hv {l l':List Prod} {k:Int} (h:l.map eP=l'.map eP) (hl:EN l=true) (cX:EN l'=true):(EL l k).map eP=(EL l' k).map eP:=by
 rw[Zb hl,Zb cX,<-Eg l,<-Eg l',h];split
 ·rw[N2 (EG.1 hl).1,N2 (EG.1 cX).1,Ef,Ef,h];have e: ∀m:List Prod,eP {BK m k with s9:=[]}={BK (m.map eP) k with s9:=[]}:=λm=>by rw[Bn];rfl
  rw[e,e,h]
 ·exact h
theorem M5 (b:Batch) (n m:Int):(CA b n).map z0=(CA b m).map z0:=by
 refine List.ext_getElem (by simp[CA]) λi h1 h2=>?_;simp[CA,IX,z0]
theorem Pa: ∀(l:List Batch) (n m:Int),(Cq l n).map z0=(Cq l m).map z0
 |[],_,_=>rfl
 |b::r,n,m=>by simp only[Cq,A38];rw[M5 b n m,Pa r (n+b.rZ.length) (m+b.rZ.length)]
structure AR (a b:Part):Prop where
 pa:POk a
 pb:POk b
 rows:a.rows.map z0=b.rows.map z0
 kI:a.kI=b.kI
 rA:a.rA.map eP=b.rA.map eP
 fb:b.fin=b.rows.length
 fab:b.fin<=a.fin
theorem Qh:AR EW EW:=⟨Qi,Qi,Y,Y,Y,Y,Aa⟩
theorem Bg {e q:Int} {p:Part} (h:POk p) (he:e=0\/e=1) (hq:0<=q/\q<=2):Fy e q p=false:=by
 simp[Fy,Ez.2 h];omega
theorem Pc {l:List Batch} (h: ∀b∈l,A4 b=true):Tq l<=4*l.length:=by
 have e: ∀l:List Batch,Tq l=Ee l:=λl=>by
  induction l with
  |nil=>rfl
  |cons a r ih=>simp only[Tq,A5h,List.sum_cons,Ee];unfold Tq at ih;rw[ih]
 rw[e];exact Hc h
theorem Eu: ∀{l:List Opn},(∀o∈l,Cp o=true)->Tp l<=32*l.length
 |[],_=>WW _
 |o::r,h=>by
  have ih:=Eu (l:=r) λx hx=>h x (by simp[hx]);have hc:=h o Ac;have h1:=Pc (l:=o.gG) λb hb=>(E2 hc b hb).1;have h2:=CM hc;simp only[Tp,A5h,List.sum_cons,A2z]at ih⊢;omega
theorem Hz {i:Nat} {a b:Part} {x:Batch} (h:AR a b) (ta:TQ i a) (tb:TQ i b) (hi:i<=1000) (hm:A4 x=true):KX a x=KX b x:=by
 have hb:=BV hm;have h1:=ta.fin;have h2:=tb.fin;have h3:=ta.kI;have h4:=Eu (l:=a.kI) λo ho=>(h.pa.ook o ho).1;have e:KI a x=KI b x:=by unfold KI;rw[h.kI]
 have n1: ¬Amz a x>1048576:=by unfold Amz;omega
 have n2: ¬Amz b x>1048576:=by unfold Amz;rw[<-h.kI];omega
 unfold KX;rw[e,Ug n1,Ug n2]
theorem Nk {a b:Part} {x:Batch} (h:AR a b) (hm:A4 x=true) (hca:C6 a.rA x=0) (hia:Ff a.rA x=false) (hra:KX a x=none) (nQ:C6 b.rA x=0) (hib:Ff b.rA x=false) (hrb:KX b x=none):eB (As8 a x)=eB (As8 b x)/\AR (I0 a x) (I0 b x):=by
 have a0:=h.pa.b0;have a1:=h.pa.b1;have b0:=h.pb.b0;have b1:=h.pb.b1
 have hB:eB (As8 a x)=eB (As8 b x):=by
  unfold As8;split
  ·rfl
  ·unfold eB;rw[Ug Aa,Ug Aa]
 refine⟨hB,Auh h.pa hm hca hia hra,Auh h.pb hm nQ hib hrb,?_,?_,?_,?_,?_⟩
 ·cases ht:x.vV with
  |true=>simpa[I0,ht,O3]using h.rows
  |false=>
   simp only[I0,ht,EH,A0s,ZF,A38];rw[h.rows,M5 x a.fin b.fin]
 ·cases ht:x.vV with
  |true=>simp only[I0,ht,O3,Xs];rw[h.kI]
  |false=>simpa[I0,ht,EH]using h.kI
 ·rw[(A05 h.pa hca hia).1,(A05 h.pb nQ hib).1];exact Et h.rA h.pa.vW h.pb.vW hB
 ·have:=h.fb
  cases ht:x.vV with
  |true=>simpa[I0,ht,O3]using this
  |false=>simp only[I0,ht,EH,A0s,ZF,Xp,Ajz];omega
 ·have:=h.fab
  cases ht:x.vV with
  |true=>simpa[I0,ht,O3]using this
  |false=>simp only[I0,ht,EH,A0s,ZF];omega
theorem Bo {e q:Int} {p:Part} {b:Batch} (h:A4 b=false):(Aa5 e q p b).e=2:=by simp[Aa5,h]
theorem Ec {e q:Int} {p:Part} {b:Batch} (h1:Fy e q p=false) (h2:A4 b=true) (hc:C6 p.rA b≠0):(Aa5 e q p b).e=C6 p.rA b:=by simp[Aa5,h1,h2,D8,hc]
theorem Cf {i:Nat} {q:Int} (hq:0<=q/\q<=2) {a b:Part} {x:Batch} (h:AR a b) (ta:TQ i a) (tb:TQ i b) (hi:i<=1000):(Aa5 0 q a x).e=(Aa5 1 q b x).e/\((Aa5 0 q a x).e=0->eB (Aa5 0 q a x).s6=eB (Aa5 1 q b x).s6/\AR (Aa5 0 q a x).part (Aa5 1 q b x).part):=by
 have ga:=Bg (e:=0) (q:=q) h.pa Aa hq;have gb:=Bg (e:=1) (q:=q) h.pb Aa hq
 cases hm:A4 x with
 |false=>rw[Bo hm,Bo hm];exact⟨Y,λh=>by cases h⟩
 |true=>
  obtain⟨k1,k2,k3⟩:=Hx (b:=x) h.rA h.pa.vW h.pb.vW;by_cases hc:C6 a.rA x=0
  ·have nQ:C6 b.rA x=0:=by rw[<-k1];exact hc
   have hr:=Hz h ta tb hi hm;rw[A28 ga hm hc,A28 gb hm nQ,<-k2]
   cases hI:Ff a.rA x with
   |true=>exact⟨Y,λ_=>⟨k3,h⟩⟩
   |false=>
    simp only[A0s,ZF];rw[<-hr]
    cases hR:KX a x with
    |some y=>exact⟨Y,λh=>absurd h (Ap0 hR)⟩
    |none=>exact⟨Y,λ_=>Nk h hm hc hI hR nQ (by rw[<-k2];exact hI) (by rw[<-hr];exact hR)⟩
  ·rw[Ec ga hm hc,Ec gb hm (by rw[<-k1];exact hc)];exact⟨k1,λh=>absurd h hc⟩
theorem La {i:Nat} {a b:Part} {k:Nat} {o:Opn} {oC:Bool} (h:AR a b) (ta:TQ i a) (tb:TQ i b) (hi:i<=1000) (hk:a.kI[k]?=some o):AR (FF 0 a k o oC) (FF 1 b k o oC):=by
 have hkb:b.kI[k]?=some o:=by rw[<-h.kI];exact hk
 have h1:=ta.fin;have h2:=tb.fin;have h3:=h.fb;have h4:=h.fab;have iU:=(h.pa.ook o (Apj hk)).1;have hl:=CM iU;have hr:=Hc (l:=o.gG) λb hb=>(E2 iU b hb).1;refine⟨Aec h.pa hk Aa,Aec h.pb hkb Aa,?_,?_,Hv h.rA h.pa.vW h.pb.vW,?_,?_⟩
 ·cases oC with
  |false=>simpa[FF,KK]using h.rows
  |true=>
   simp only[FF,KK,Xs,A38];rw[h.rows,Pa o.gG a.fin b.fin]
 ·simp only[FF];rw[h.kI]
 ·cases oC with
  |false=>simpa[FF,KK]using h3
  |true=>simp only[FF,KK,Xs,Xp,Hb];simp;omega
 ·cases oC with
  |false=>simp[FF,KK];omega
  |true=>simp[FF,KK];omega
theorem Nm {i:Nat} {q:Int} (hq:0<=q/\q<=2) {a b:Part} {lO:Int} {oC:Bool} (h:AR a b) (ta:TQ i a) (tb:TQ i b) (hi:i<=1000):(Mn 0 q a lO oC).e=0/\(Mn 1 q b lO oC).e=0/\AR (Mn 0 q a lO oC).part (Mn 1 q b lO oC).part:=by
 have ga:=Bg (e:=0) (q:=q) h.pa Aa hq;have gb:=Bg (e:=1) (q:=q) h.pb Aa hq;unfold Mn;rw[ga,gb,<-h.kI]
 cases hf:a.kI.find? (λo=>decide (o.lO=lO))with
 |none=>exact⟨by first|trivial|rfl,by first|trivial|rfl,h⟩
 |some o=>
  obtain⟨k,hk,eS,_⟩:=Lx hf;simp only[A0s,ZF];rw[eS];exact⟨by first|trivial|rfl,by first|trivial|rfl,La h ta tb hi hk⟩
theorem Ql {x y:Int} (h:eB x=eB y):x= -1↔y= -1:=by
 unfold eB at h;by_cases h1:x= -1<;>by_cases h2:y= -1<;>simp_all
theorem VF: ∀{next:Int} {l:List Seen},BQ next l=true-> ∀s∈l,-1<=s.s6
 |_,[],_,s,hs=>by cases hs
 |next,a::r,h,s,hs=>by
  simp only[BQ,Qp,Uj]at h;rcases Als.1 hs with e|e
  ·subst e;exact h.1.1.2.2.2.1
  ·exact VF h.2 s e
theorem Nn {l:List Prod} (hl:EN l=true) (b:Batch): -1<=L8 l b:=by
 unfold L8;split
 ·split
  ·decide
  ·unfold Md;split
   ·cases hf:(K1 l b).s9.find? (KC b)with
    |none=>decide
    |some s=>
     have hs:=A40 hf;show-1<=s.s6;have hk: ∀p∈l,CW p=true:=(EG.1 hl).2;have hz:s∉EB.s9:=by simp[EB]
     have hp:s∈(BK l b.lO).s9:=by
      unfold K1 at hs;split at hs
      ·exact hs
      ·exact absurd hs hz
     unfold BK at hp
     cases hg:l.find? (λp=>decide (p.lO=b.lO))with
     |none=>rw[hg]at hp;exact absurd hp hz
     |some p=>
      rw[hg]at hp;have:=hk p (A40 hg);simp only[CW,Qp]at this;exact VF this.2 s hp
   ·split<;>decide
 ·decide
theorem Nh {i:Nat} {q:Int} (hq:0<=q/\q<=2) {a b:Part} {x:Batch} (h:AR a b) (ta:TQ i a) (tb:TQ i b) (hi:i<=1000):(Aa5 0 q a x).e=0->((Aa5 0 q a x).w=[]↔(Aa5 1 q b x).w=[])/\((Aa5 0 q a x).s6<0↔(Aa5 1 q b x).s6<0):=by
 intro hz;have ga:=Bg (e:=0) (q:=q) h.pa Aa hq;have gb:=Bg (e:=1) (q:=q) h.pb Aa hq;obtain⟨p1,p2⟩:=Cf (x:=x) hq h ta tb hi;obtain⟨p3,_⟩:=p2 hz;rw[hz]at p1;have p3:=Ql p3;have hw: ∀(e:Int) (p:Part),Av5 e q x≠[]:=λe p=>by unfold Av5 EV;split<;>simp
 have key: ∀(e:Int) (p:Part),POk p->Fy e q p=false->(Aa5 e q p x).e=0->((Aa5 e q p x).w=[]↔Ff p.rA x=true)/\ -1<=(Aa5 e q p x).s6:=by
  intro e p hp hb he
  cases hm:A4 x with
  |false=>rw[Bo hm]at he;cases he
  |true=>
   by_cases hc:C6 p.rA x=0
   ·rw[A28 hb hm hc]at he⊢
    cases hI:Ff p.rA x with
    |true=>simp only[Xs];exact⟨Ac,Nn hp.vW x⟩
    |false=>
     rw[hI]at he;simp only[A0s,ZF]at he⊢
     cases hR:KX p x with
     |some y=>rw[hR]at he;exact absurd he (Ap0 hR)
     |none=>
      simp only;refine⟨⟨λe'=>absurd e' (hw e p),λe'=>by cases e'⟩,?_⟩;have:=hp.b0;have:=hp.b1;unfold As8;split<;>omega
   ·rw[Ec hb hm hc]at he;exact absurd he hc
 obtain⟨k1,k2⟩:=key 0 a h.pa ga hz;obtain⟨k3,k4⟩:=key 1 b h.pb gb p1.symm;have hck:=(Hx (b:=x) h.rA h.pa.vW h.pb.vW).2.1;rw[k1,k3,hck];exact⟨A6h,Aa⟩
structure BothI (n:Nat) (a b:Image):Prop where
 ra:Rch n a
 rb:Rch n b
 ta:a.vQ=0
 tb:b.vQ=1
 ar: ∀q,(q=0\/q=1\/q=2)->AR (A5 a q) (A5 b q)
 m:a.m=b.m
theorem BothI.up {n:Nat} {a b:Image} (h:BothI n a b):BothI (n+1) a b:=⟨h.ra.up,h.rb.up,h.ta,h.tb,h.ar,h.m⟩
theorem Ld {n:Nat} {A B:Image} (ha:Pre n A) (hb:Pre n B) (ta:A.vQ=0) (tb:B.vQ=1) (ar: ∀q,(q=0\/q=1\/q=2)->AR (A5 A q) (A5 B q)) (m:A.m=B.m):BothI n (Tu A) (Tu B):=by
 have hw: ∀lO,BF A lO=BF B lO:=λlO=>by
  have h0:=(ar 0 Ac).kI;have h1:=(ar 1 Ac).kI;have h2:=(ar 2 Ac).kI;simp only[A5,Int.reduceEq,Xs,ZF]at h0 h1 h2;unfold BF DW;rw[h0,h1,h2]
 refine⟨ha.set,hb.set,ta,tb,λq hq=>?_,?_⟩
 ·have e1:A5 (Tu A) q=A5 A q:=Afk _ _ _ _ hq;have e2:A5 (Tu B) q=A5 B q:=Afk _ _ _ _ hq;rw[e1,e2];exact ar q hq
 ·have e: ∀K:Image,(Tu K).m={K.m with t0:=DT K.m.t0 (BF K K.m.t0.lO),t1:=DT K.m.t1 (BF K K.m.t1.lO),t2:=DT K.m.t2 (BF K K.m.t2.lO)}:=λ_=>rfl;rw[e,e,m];simp only[hw]
theorem Qf {n:Nat} {a b:Image} (h:BothI n a b) {s:MState} (ha:Pre n (Dy a s)) (hb:Pre n (Dy b s)):BothI n (Tu (Dy a s)) (Tu (Dy b s)):=Ld ha hb h.ta h.tb h.ar Y
structure RepEq (x y:Reply):Prop where
 e:x.e=y.e
 lO:x.lO=y.lO
 lT:x.lT=y.lT
 off:x.offset<0↔y.offset<0
theorem RepEq.rf (x:Reply):RepEq x x:=⟨Y,Y,Y,A6h⟩
structure StepsR (n:Nat) (l m:List Step):Prop where
 len:l.length=m.length
 at_: ∀(k:Nat) (s t:Step),l[k]?=some s->m[k]?=some t->BothI n s.i t.i
theorem StepsR.nil (n:Nat):StepsR n [] []:=⟨Y,λk s t h=>by simp at h⟩
theorem StepsR.one {n:Nat} {s t:Step} (h:BothI n s.i t.i):StepsR n [s] [t]:=⟨Y,λk u v h1 h2=>by
 cases k with
 |zero=>simp at h1 h2;subst h1;subst h2;exact h
 |succ k=>simp at h1⟩
theorem StepsR.up {n:Nat} {l m:List Step} (h:StepsR n l m):StepsR (n+1) l m:=⟨h.len,λk s t h1 h2=>(h.at_ k s t h1 h2).up⟩
theorem StepsR.app {n:Nat} {l m:List Step} (h:StepsR n l m) {s t:Step} (hs:BothI n s.i t.i):StepsR n (l++[s]) (m++[t]):=by
 have hl:=h.len;refine⟨by simp[hl],λk u v h1 h2=>?_⟩;by_cases hk:k<l.length
 ·rw[Abh hk]at h1;rw[Abh Aa]at h2;exact h.at_ k u v h1 h2
 ·rw[Aez Aa]at h1;rw[Aez Aa]at h2;rw[hl]at h1
  cases hd:k-m.length with
  |zero=>rw[hd]at h1 h2;simp at h1 h2;subst h1;subst h2;exact hs
  |succ j=>rw[hd]at h1;simp at h1
structure PlanRel (n:Nat) (p q:PlR):Prop where
 e:p.e=q.e
 y:RepEq p.y q.y
 l:StepsR n p.vX q.vX
theorem PlanRel.bad (n:Nat) (k:Int):PlanRel n (Q8 k) (Q8 k):=⟨Y,.rf _,.nil n⟩
theorem PlanRel.up {n:Nat} {p q:PlR} (h:PlanRel n p q):PlanRel (n+1) p q:=⟨h.e,h.y,h.l.up⟩
theorem Pi {n:Nat} {a b:Image} (h:BothI n a b) {x:MEntry} {bs:Bs} {y:Image->Reply} (ha:Ej a.m x=0->Pre n (Dy a (HF a.m x))) (hb:Ej b.m x=0->Pre n (Dy b (HF b.m x))) (hy: ∀L M:Image,L.m=M.m->y L=y M):PlanRel n (Af5 a x bs y) (Af5 b x bs y):=by
 by_cases hz:Ej a.m x=0
 ·have hz':Ej b.m x=0:=by rw[<-h.m];exact hz
  have hB:BothI n (Ako a x) (Ako b x):=by
   have:=hb hz';rw[<-h.m]at this;have:=Qf h (ha hz) this;unfold Ako;rw[<-h.m];exact this
  rw[LM hz,LM hz'];refine⟨Y,?_,.one hB⟩;show RepEq (y _) (y _);rw[hy _ _ hB.m];exact .rf _
 ·rw[NI hz,NI (by rw[<-h.m];exact hz),<-h.m];exact .bad n _
theorem Bh {n:Nat} {a b:Image} (h:BothI n a b) (T:Int) (oC:Bool) (sA:Int):IB a T oC sA=IB b T oC sA:=by
 unfold IB;rw[h.ra.chk,h.rb.chk,h.m]
theorem M6 {n:Nat} {a b:Image} (h:BothI n a b) (hn:n<=900) {T:Int} {oC:Bool} {sA:Int} (he:IB a T oC sA=0):BothI (n+1) (Jp a T oC sA).i (Jp b T oC sA).i:=by
 have heb:IB b T oC sA=0:=by rw[<-Bh h];exact he
 unfold Jp;rw[he,heb,Ug (λx=>x Y),Ug (λx=>x Y)];unfold IB at he;split at he
 ·cases he
 rename_i h1;split at he
 ·rename_i h3;exact absurd he h3
 rename_i hp;split at he
 ·cases he
 rename_i h2;have ht:0<=T/\T<3:=Ya λx=>h1 (.inr x);have hp:CN (Aj a.m T) oC sA=0:=A34.1 hp;have h2:(Aj a.m T).state=2:=A34.1 h2;have hKa:=Ap2 h.ra hn ht hp h2;have hKb:=Ap2 h.rb hn ht (by rw[<-h.m];exact hp) (by rw[<-h.m];exact h2);have m9:=(CZ h.ra.vT.vW).mY T;obtain⟨gI,hl⟩:=Hd (RW m9 Aa)
 have em:(Q4 a T oC sA).m=(Q4 b T oC sA).m:=by
  have e: ∀i:Image,(Q4 i T oC sA).m=DY (AO i.m T (Dd (Aj i.m T) oC sA)) T:=λ_=>rfl;rw[e,e,h.m]
 have et: ∀i:Image,(Q4 i T oC sA).vQ=i.vQ:=λi=>(IF ..).2;refine Ld hKa hKb (by rw[et];exact h.ta) (by rw[et];exact h.tb) (λq hq=>?_) em;have ek: ∀i:Image,A5 (Q4 i T oC sA) q=A5 (JU i T oC sA).i q:=λ_=>rfl;rw[ek,ek];unfold JU;rw[Gd _ oC _ _ q gI hl hq,Gd _ oC _ _ q (by rw[<-h.m];exact gI) (by rw[<-h.m];exact hl) hq];have e1: ∀i:Image,A5 (Dy i (AO i.m T (Dd (Aj i.m T) oC sA))) q=A5 i q:=λ_=>rfl;have e2: ∀i:Image,(Dy i (AO i.m T (Dd (Aj i.m T) oC sA))).vQ=i.vQ:=λ_=>rfl;simp only[e1,e2];rw[h.ta,h.tb,<-h.m];split
 ·exact(Nm Aa (h.ar q hq) (h.ra.vT.tq q hq) (h.rb.vT.tq q hq) Aa).2.2
 ·exact h.ar q hq
theorem Po {n:Nat} {a b:Image} (h:BothI n a b) (hn:n<=900) {T:Int} {oC:Bool} {sA:Int} {y:Image->Reply} (hy: ∀L M:Image,L.m=M.m->y L=y M):PlanRel (n+1) (Are a T oC sA y) (Are b T oC sA y):=by
 by_cases hz:IB a T oC sA=0
 ·have hz':IB b T oC sA=0:=by rw[<-Bh h];exact hz
  have hB:=M6 h hn hz;rw[UT hz,UT hz'];refine⟨Y,?_,.one hB⟩;show RepEq (y _) (y _);rw[hy _ _ hB.m];exact .rf _
 ·rw[YH hz,YH (by rw[<-Bh h];exact hz),<-Bh h];exact .bad _ _
theorem Hy {n:Nat} {a b:Image} (h:BothI n a b) (lO ep:Int) (vV:Bool):F7 a lO ep vV=F7 b lO ep vV/\Fi a lO ep vV=Fi b lO ep vV:=by
 have e1:F7 a lO ep vV=F7 b lO ep vV:=by unfold F7 XM;rw[h.m]
 exact⟨e1,by unfold Fi;rw[e1,h.m]⟩
theorem Qc {n:Nat} {a b:Image} (h:BothI n a b) (hn:n<=900) {r:Req} (hq:0<=r.part/\r.part<3):PlanRel (n+1) (Aas a r) (Aas b r):=by
 have lZ:r.part=0\/r.part=1\/r.part=2:=Aa;have hA:=h.ar _ lZ;have tA:=h.ra.vT.tq _ lZ;have tB:=h.rb.vT.tq _ lZ;obtain⟨p1,p2⟩:=Cf (q:=r.part) (x:=r.b) Aa hA tA tB Aa;have p3:=Nh (q:=r.part) (x:=r.b) Aa hA tA tB Aa;have hw:=(Hy h r.b.lO r.b.lT r.b.vV).1;unfold Aas;rw[<-hw];by_cases hz:F7 a r.b.lO r.b.lT r.b.vV=0
 ·have ka:=λe=>X6 h.ra Aa lZ hz (e:(Aa5 a.vQ r.part (A5 a r.part) r.b).e=0);have kb:=λe=>X6 h.rb Aa lZ (by rw[<-hw];exact hz) (e:(Aa5 b.vQ r.part (A5 b r.part) r.b).e=0);have ma:=λP=>Ae8 a r.part P;have mb:=λP=>Ae8 b r.part P;have h0: ¬(F7 a r.b.lO r.b.lT r.b.vV≠0):=λx=>x hz;rw[Ug h0,Ug h0];rw[h.ta]at ka⊢;rw[h.tb]at kb⊢;by_cases he:(Aa5 0 r.part (A5 a r.part) r.b).e=0
  ·obtain⟨p4,p5⟩:=p2 he;obtain⟨p6,p7⟩:=p3 he;rw[he]at p1;have ka:=ka he;have kb:=kb p1.symm
   have hB:BothI (n+1) (Tu (CP a r.part (Aa5 0 r.part (A5 a r.part) r.b).part)) (Tu (CP b r.part (Aa5 1 r.part (A5 b r.part) r.b).part)):=by
    refine Ld ka kb (by rw[(ma _).2];exact h.ta) (by rw[(mb _).2];exact h.tb) (λq jW=>?_) (by rw[(ma _).1,(mb _).1];exact h.m);rw[NF a lZ jW,NF b lZ jW];split
    ·exact p5
    ·exact h.ar q jW
   have h1a: ¬((Aa5 0 r.part (A5 a r.part) r.b).e≠0):=λx=>x he;have h1b: ¬((Aa5 1 r.part (A5 b r.part) r.b).e≠0):=λx=>x p1.symm;rw[Ug h1a,Ug h1b];by_cases dO:(Aa5 0 r.part (A5 a r.part) r.b).w=[]
   ·rw[WU dO,WU (p6.1 dO)];exact⟨Y,⟨Y,Y,Y,p7⟩,.nil _⟩
   ·rw[Ug dO,Ug (λx=>dO (p6.2 x))];exact⟨Y,⟨Y,Y,Y,p7⟩,.one hB⟩
  ·rw[WU he,WU (by rw[<-p1];exact he),<-p1];exact .bad _ _
 ·rw[WU hz,WU hz];exact .bad _ _
theorem Be {l:List Step} {s:Step} (h:l.getLast?=some s):l[l.length-1]?=some s:=by
 obtain⟨a,rfl⟩:=A7x.1 h;simp
theorem Qa {n:Nat} (hn:n<=900) {l m:List Step} (h:StepsR n l m) (t:Int):StepsR (n+1) (Iu l t) (Iu m t):=by
 unfold Iu
 cases hl:l.getLast? with
 |none=>
  have e:=A6e.1 hl;subst e;have e:m=[]:=Aq1 h.len.symm;subst e;exact .nil _
 |some s=>
  cases hm:m.getLast? with
  |none=>
   have e:=A6e.1 hm;subst e;have e:=Aq1 h.len;subst e;cases hl
  |some u=>
   have hB:=h.at_ (l.length-1) s u (Be hl) (by rw[h.len];exact Be hm);simp only;by_cases hz:IB s.i t false 0=0
   ·rw[WU hz,WU (by rw[<-Bh hB];exact hz)];exact h.up.app (M6 hB hn hz)
   ·rw[Ug hz,Ug (by rw[<-Bh hB];exact hz)];exact h.up
theorem Es: ∀(d:List Int) {n:Nat} {l m:List Step},n+d.length<=900->StepsR n l m->StepsR (n+d.length) (d.foldl Iu l) (d.foldl Iu m)
 |[],_,_,_,_,h=>h
 |t::d,n,l,m,hn,h=>by
  simp only[A2z]at hn;have:=Es d (n:=n+1) Aa (Qa Aa h t);rw[A6m,A6m,A2z,show n+(d.length+1)=n+1+d.length from Aa];exact this
theorem StepsR.mono {n k:Nat} (hk:n<=k) {l m:List Step} (h:StepsR n l m):StepsR k l m:=by
 obtain⟨d,rfl⟩:=Nat.le.dest hk
 induction d with
 |zero=>exact h
 |succ d ih=>exact(ih Aa).up
theorem Pb {n:Nat} {a b:Image} (h:BothI n a b) (hn:n<=880):PlanRel (n+4) (Ajc a) (Ajc b):=by
 have hB:BothI n (GX a) (GX b):=⟨Aj9 h.ra,Aj9 h.rb,h.ta,h.tb,h.ar,by show IU _=IU _;rw[h.m]⟩
 have hd:=Anf (GX a).m;have h0:StepsR n [⟨[],GX a⟩] [⟨[],GX b⟩]:=.one hB;refine⟨Y,.rf _,?_⟩;show StepsR _ (Rp (GX a) (TA (GX a).m)) (Rp (GX b) (TA (GX b).m));unfold Rp;rw[<-hB.m];exact(Es _ Aa h0).mono Aa
def Bd (k:Int):Bool:=decide (k≠3/\k≠5/\k≠6/\k≠8)
theorem Nb {mY:Int} (L M:Image) (h:L.m=M.m):W5 L mY=W5 M mY:=by unfold W5;rw[h]
theorem Pg {n:Nat} {a b:Image} (h:BothI n a b) (hn:n<=880) {r:Req} (hm:Fa r=true) (hk:Bd r.kind=true):PlanRel (n+4) (Uz a r) (Uz b r):=by
 have hr:B8 r=true:=by unfold Fa at hm;simp only[Qp]at hm;exact hm.1
 have nG:=PL hm;have hk:=A5c hk;unfold B8 at hr;simp only at hr;obtain e|e|e|e|e|e:r.kind=0\/r.kind=1\/r.kind=2\/r.kind=4\/r.kind=7\/r.kind=9:=Aa
 all_goals
  unfold Uz;simp only[e,Int.reduceEq,Xs,ZF,Qp,Uj]at hr⊢
 ·exact(Pi h (At2 h.ra) (At2 h.rb) λL M e=>by rw[e]).up.up.up.up
 ·unfold Alz;rw[<-h.m];split
  ·exact(Po h Aa (Nb (mY:=r.mY))).up.up.up
  ·exact(Pi h (At1 h.ra Aa) (At1 h.rb Aa) (Nb (mY:=r.mY))).up.up.up.up
 ·exact(Qc h Aa Aa).up.up.up
 ·unfold Amy;rw[<-(Hy h r.lO r.lT true).1,<-(Hy h r.lO r.lT true).2,<-h.m];split
  ·exact .bad _ _
  split
  ·exact⟨Y,.rf _,.nil _⟩
  ·exact(Po h Aa λ_ _ _=>rfl).up.up.up
 ·unfold Asr;rw[<-h.m];exact⟨Y,.rf _,.nil _⟩
 ·exact Pb h hn
structure PlansRel (n:Nat) (p q:List Step×Reply×Int):Prop where
 l:StepsR n p.1 q.1
 y:RepEq p.2.1 q.2.1
 e:p.2.2=q.2.2
theorem Gs {n:Nat} {a b:Image} (h:BothI n a b) (hn:n<=880) {r:Req} (hk:Bd r.kind=true):PlansRel (n+4) (U0 a r) (U0 b r):=by
 unfold U0
 cases hm:Fa r with
 |false=>exact⟨.nil _,.rf _,Y⟩
 |true=>
  rw[Ug Ae,Ug Ae];have hP:=Pg h hn hm hk;rw[<-hP.e]
  cases (Uz a r).e with
  |some m=>exact⟨.nil _,.rf _,Y⟩
  |none=>exact⟨hP.l,⟨hP.y.e,hP.y.lO,hP.y.lT,hP.y.off⟩,Y⟩
theorem Qd {n:Nat} {a b:Image} (h:BothI n a b) {l m:List Step} (hl:StepsR n l m):BothI n (Aqe a l) (Aqe b m):=by
 unfold Aqe
 cases e1:l.getLast? with
 |none=>
  have e:=A6e.1 e1;subst e;have e:m=[]:=Aq1 hl.len.symm;subst e;exact h
 |some s=>
  cases e2:m.getLast? with
  |none=>
   have e:=A6e.1 e2;subst e;have e:=Aq1 hl.len;subst e;cases e1
  |some u=>exact hl.at_ (l.length-1) s u (Be e1) (by rw[hl.len];exact Be e2)
theorem Hl: ∀(l:List Req) {n:Nat} {a b:Image},n+4*l.length<=880->(∀r∈l,Bd r.kind=true)->BothI n a b->BothI (n+4*l.length) (l.foldl (λi r=>Aqe i (U0 i r).1) a) (l.foldl (λi r=>Aqe i (U0 i r).1) b)
 |[],_,_,_,_,_,h=>h
 |r::l,n,a,b,hn,hb,h=>by
  simp only[A2z]at hn;have hP:=Gs h Aa (hb r Ac);have:=Hl l (n:=n+4) Aa (λx hx=>hb x (by simp[hx])) (Qd h.up.up.up.up hP.l);rw[A6m,A6m,A2z,show n+4*(l.length+1)=n+4+4*l.length from Aa];exact this
theorem Oa (l:List Req) (hl:l.length<=200) (hb: ∀r∈l,Bd r.kind=true):BothI (4*l.length) (Aif 0 l) (Aif 1 l):=by
 have h0:BothI 0 ⟨0,EW,EW,EW,Aor⟩ ⟨1,EW,EW,EW,Aor⟩:=⟨Asp (.inl Y),Asp (.inr Y),Y,Y,λq hq=>by rcases hq with rfl|rfl|rfl<;>exact Qh,Y⟩
 have:=Hl l (n:=0) Aa hb h0
 rwa[Atj]at this
